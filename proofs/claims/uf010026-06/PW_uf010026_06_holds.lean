import PyProof.Rows.All
import PyProof.Walks
import Wide.All
import OpenK.AllK
import KE.KTryMore
import Wide.FinOn
import PyProof.StationsW
import PyProof.RangeIter
import PyProof.InstFacts
import KE.KUnpack
import KE.KDictList
import KE.KSortAsk
import KE.KSortTup
import KE.KDictOf
import PyProof.AttrMissHeap
import PyProof.Rows.TupMore
import Open.FastRun
import Open.FastT9
import Open.Line
import PySem.Challenge.RW_uf010026_06
set_option Elab.async false
set_option maxRecDepth 1000000
set_option maxHeartbeats 8000000
set_option linter.all false
set_option tactic.hygienic false
set_option genSizeOf false
set_option genInjectivity false
set_option compiler.extract_closed false
set_option bootstrap.genMatcherCode false
set_option backward.match.sparseCases false
open Option renaming none->aa,map_eq_some_iff->aU,isSome_iff_exists->bF,map_some->dD,bind_eq_some_iff->e6,isSome_some->gu
open PySem renaming wpAny_bind->ac,Shared->af,wpAny_pure->ah,Expr->aj,wpAny_mono->aJ,DictEntry->aO,wpAny_holding->bI,wpAny_newObj_type->bW,mainGlobals->bZ,wpAny_truthy_bool->cA,Around->cD,NameKind->cG,sysModules->cL,callEnvC->cN,wpAny_dictEntries->cO,Stmt->cR,wpAny_standAt->cX,wpAny_typeNameOfWhole_keyiter->cZ,cellsFrom->c5,wpAny_field->dk,wpAny_call_entry->dr,Program->dz,tupleKind->dB,codeAny_mono->dG,wpAny_typeNameOf_keyiter->dK,rawInt->dL,wpAny_callSpecial?_slot->dM,constantsAlone->dN,sizeLine_eq->dW,PyData->d5,intKind->d6,wpAny_attempt->eM,wpAny_assignInOrder_more->eO,swappedStores->eQ,Builtin->eT,pushCells_keeps->eU,wpAny_setField->ff,starEach->fh,wpAny_pyIter_enum->fo,wpAny_notOrdered_dict->fB,wpAny_isInstance->fJ,pushCells->fK,wpAny_eqBool_int->fP,wpAny_execs_nil->f5,wpAny_passesOwn->f6,importedModules->ge,Fin->gp,firstArgMember->gr,IsRangeIter->gF,Operator->gR,sizeLine->gT,PassesOwn->gU
open Option.some renaming inj->ae,injEq->ew
open List renaming mem_of_getElem?->ag,length_map->an,mem_cons->ax,toArray->az,getElem?_eq_getElem->aA,getD_eq_getElem?_getD->aB,length_append->aE,size_toArray->aF,length_cons->aK,append_nil->aL,append_assoc->aM,replicate->aP,mem_singleton->aR,getElem?_map->aT,mem_map->aW,getElem?_eq_none->aX,map_map->aY,mem_append->aZ,mem_append_left->ba,not_mem_nil->bh,getElem?_append_right->bn,range->bp,mem_append_right->bx,map_append->bB,mem_filter->bE,nodup_cons->bJ,length_replicate->bP,map_cons->bQ,all_eq_true->bU,length->bX,length_filter_le->b5,getElem?_append_left->ce,length_singleton->cw,pairwise_map->cz,nodup_append->cC,map_congr_left->cI,foldl_cons->cQ,lookup_cons->cU,filter_cons_of_pos->c7,filter_cons_of_neg->c8,length_nil->c9,mem_map_of_mem->de,find?_cons->dC,any_eq_true->dQ,getElem?_replicate->dR,mem_filterMap->d7,pairwise_cons->d9,filter_append->ef,forIn_cons->ej,concat_eq_append->eu,ext_getElem?->ey,mem_flatMap->eJ,getElem?_eq_some_iff->eK,getElem?_cons_zero->e7,filter->e9,mem_range->fp,nodup_nil->fu,contains_iff_mem->fG,length_take->fQ,any_cons->fR,getElem?_mapIdx->fT,getElem?_of_mem->fX,nil_append->gd,flatMap_append->gh,map_eq_nil_iff->gj,map_replicate->gA,getElem?_nil->gG,length_range->gJ,foldl_append->gM,getElem_map->gX,getElem_mem->gY,take_length->hS,take->ib,foldl->il,filter_nil->io,map_id->iq
open Int renaming le_antisymm->ai,toNat_of_nonneg->ao,lt_or_gt_of_ne->aH,self_le_toNat->aI,sub_add_cancel->bA,add_zero->bH,toNat_natCast->b7,eq_ofNat_of_zero_le->cF,zero_add->cV,le_trans->dh,le_max_right->du,add_sub_cancel->dw,fmod_eq_emod_of_nonneg->dy,add_assoc->dJ,natCast_nonneg->dX,ofNat_le->dY,lt_of_le_of_lt->eX,le_refl->eZ,not_lt->fH,neg_one_mul->fZ,not_le->gq,add_left_comm->gB,sub_zero->im
open Nat renaming sub_add_cancel->ak,sub_le_iff_le_add'->aq,le_antisymm->ar,le_trans->aw,le_refl->ay,le_of_ble_eq_true->bf,eq_of_beq_eq_true->bt,lt_or_gt_of_ne->bz,lt_or_ge->bL,ne_of_lt->bO,beq->bV,lt_succ_of_lt->cM,not_lt->cT,zero_le->di,lt_of_le_of_lt->dv,le_of_lt->dE,le_of_eq->dH,le_add_right->dO,mul_le_mul->dT,lt_of_succ_lt_succ->d8,not_lt_zero->ek,blt_eq->eA,ne_of_gt->eG,lt_succ_self->eH,ble->fq,succ_ne_zero->fL,sub_le->fM,succ->fS,le_succ->fU,min_le_left->gf,succ_pos->gl,blt->gE,le_of_succ_le->gH,le_succ_of_le->gI,succ_ne_self->gV,ble_eq->ij
open PySem.Heap renaming get?_push_of_some->au,get?_push_size->aD,lt_size->bc,get?_update_self->bM,size_push->cK,get?_update_other->dg,ExtBut->dn,SameBut->ie
open Bool renaming and_eq_true_iff->aG,false_ne_true->aQ,and_eq_true->be,false_eq_true->cg,eq_false_iff->cJ,or_eq_true_iff->dc,or_eq_true->eh,and_eq_false_iff->fF,not_true->gO
open PySem.Builtin.Range renaming rangeSize->aN,small->cu,rangeFitsLong->gm
open Decidable renaming not_and_iff_or_not->aV,byContradiction->bT,em->ic
open Array renaming getD_eq_getD_getElem?->bj,getElem?_eq_some_iff->eB,length_toList->gg,forIn_toList->gw,mk->ip
open PySem.Value renaming none->bo,ref->cE,builtin->eR,int->hR
open PySem.Obj renaming mapSeq->bq,mapFields->cW,data_mapFields->dZ,putName->e8,isFreed_of_fields->fA
open PySem.Value.ref renaming inj->bG
open PySem.Heap.SameBut renaming update->bK
open PySem.NameKind renaming free->bR,cell->dq
open Prod renaming ext->bY,fst->dU,snd->fY
open PySem.Str renaming ofString->b6
open PySem.W.Fast renaming te10156331382660048174->b8,te11892475500146522536->b9,te14364793385576792824->cb,te6613529449190102663->cq,te5923862056798008813->eY
open PySem.F renaming slot_dict_keyiterator_next->cf,plainAttrs_list->dP,args_dict_keyiterator_next_1->eL,entry_dict_keyiterator_next->eN,slot_dict_iter->fj,excAttr_ValueError->gv,slot_list_insert->gQ
open PyProof.Rows renaming seqObj->cp,mirror_perm->fV,get?_update_seq->f9,slot_tuple_getitem->gy,listUpdate_at->gN
open PySem.PyData renaming depthAll->cr,canLayAll0->cB,eqv->eV,canLay0->fw,depth->ik
open Classical renaming byContradiction->cH
open Prod.mk renaming inj->cP,injEq->et
open PySem.Builtin.Tuple renaming tupleExact->cY
open PySem.W renaming boot_heap->c6,kas_asc->dA,findIn->eE,cellsFrom_some->fi,kas_count->fO,kas_sort->fW,emptyDict->gn,boot_drawn->gz,kas_place->g0,boot_toks->hV
open PySem.SeqAt renaming shaped->dF
open List.Perm renaming mem_iff->dI
open Ne renaming symm->d0
open PySem.Txt renaming mul->d3,contains->eI
open Min renaming min->ez
open List.cons renaming inj->eS
open Nat.succ renaming inj->fe
open PySem.Builtin.Dict renaming showsAll->fE,entriesForEmpty->gc,updateFrom->hU,mergeDict->ig
open PySem.Builtin.Dict_items renaming ownsTuple->f7
open ForInStep renaming yield->f8
open PySem.Calls renaming Name_function_global->gt
open PySem.Builtin.Slice renaming sliceApplied->gx
open PySem.Heap.UpToSlots renaming of_keeps->gS
open PySem.IntMulOk renaming of_left->hW
open PySem PyProof.Rows PySem.W
namespace Mine.Internal
section
theorem nM{α:Type u}{x:α}{C:Prop}(h:x∈([]:List α)):C:=nomatch h
@[elab_as_elim] theorem JF{α:Type u}{a:α}{l:List α}(x:α){G:α->Prop}(h:x∈a::l)(Y:G a)(z:x∈l->G x):G x:=(ax.mp h).elim (λe=>e▸Y) z
theorem nS{α:Type u}{x:α}{C:Prop}(h:aa=some x):C:=nomatch h
theorem nS'{α:Type u}{x:α}{C:Prop}(h:some x=aa):C:=nomatch h
theorem nF{C:Prop}(h:false=true):C:=nomatch h
theorem nT{C:Prop}(h:true=false):C:=nomatch h
section
universe i j k l m n o
section
variable {p q r:Prop}{E:Sort o}{f g:E}{G:E->Prop}{H:Prop}
@[elab_as_elim] theorem X0ll{d:Sort o}(Y:d){u:d}{E1:Sort o}(w1:E1){O:E1}{G:d->E1->Prop}(h:Y=u/\w1=O)(k:G u O):G Y w1:=by obtain⟨rfl,rfl⟩:=h;exact k 
@[elab_as_elim] theorem X0lll{d:Sort o}(Y:d){T:d}{E1:Sort o}(u:E1){O:E1}{E2:Sort o}(w2:E2){B:E2}{G:d->E1->E2->Prop}(h:Y=T/\u=O/\w2=B)(k:G T O B):G Y u w2:=by obtain⟨rfl,rfl,rfl⟩:=h;exact k 
@[elab_as_elim] theorem X0lp(W:E)(h:W=f/\q)(k:q->G f):G W:=by obtain⟨rfl,Y⟩:=h;exact k Y
end
section
variable {I:Sort i}
variable {p q r s t a b:I->Prop}{E:Sort o}{f g:I->E}{G:E->Prop}{H:Prop}
@[elab_as_elim] theorem X1l(W:E)(h:∃x,W=f x)(k:∀x,G (f x)):G W:=by obtain⟨x,rfl⟩:=h;exact k x
@[elab_as_elim] theorem X1lp(W:E)(h:∃x,W=f x/\q x)(k:∀x,q x->G (f x)):G W:=by obtain⟨x,rfl,Y⟩:=h;exact k x Y
@[elab_as_elim] theorem X1lpppppp(W:E)(h:∃x,W=f x/\q x/\r x/\s x/\t x/\a x/\b x)(k:∀x,q x->r x->s x->t x->a x->b x->G (f x)):G W:=by obtain⟨x,rfl,u,z,Y,y,T,O⟩:=h;exact k x u z Y y T O
theorem X1p(h:∃x,p x)(k:∀x,p x->H):H:=by obtain⟨x,Y⟩:=h;exact k x Y
@[elab_as_elim] theorem X1pl(W:E)(h:∃x,p x/\W=f x)(k:∀x,p x->G (f x)):G W:=by obtain⟨x,Y,rfl⟩:=h;exact k x Y
theorem X1pp(h:∃x,p x/\q x)(k:∀x,p x->q x->H):H:=by obtain⟨x,d,Y⟩:=h;exact k x d Y
theorem X1ppp(h:∃x,p x/\q x/\r x)(k:∀x,p x->q x->r x->H):H:=by obtain⟨x,T,Y,z⟩:=h;exact k x T Y z
theorem X1pppp(h:∃x,p x/\q x/\r x/\s x)(k:∀x,p x->q x->r x->s x->H):H:=by obtain⟨x,y,U,z,Y⟩:=h;exact k x y U z Y
theorem X1ppppp(h:∃x,p x/\q x/\r x/\s x/\t x)(k:∀x,p x->q x->r x->s x->t x->H):H:=by obtain⟨x,B,O,z,Y,y⟩:=h;exact k x B O z Y y
theorem X1pppppp(h:∃x,p x/\q x/\r x/\s x/\t x/\a x)(k:∀x,p x->q x->r x->s x->t x->a x->H):H:=by obtain⟨x,d,O,z,Y,y,T⟩:=h;exact k x d O z Y y T
theorem X1ppppppp(h:∃x,p x/\q x/\r x/\s x/\t x/\a x/\b x)(k:∀x,p x->q x->r x->s x->t x->a x->b x->H):H:=by obtain⟨x,U,u,z,Y,y,T,O⟩:=h;exact k x U u z Y y T O
@[elab_as_elim] theorem X1pr(W:E)(h:∃x,p x/\f x=W)(k:∀x,p x->G (f x)):G W:=by obtain⟨x,Y,rfl⟩:=h;exact k x Y
end
section
variable {I:Sort i}{J:Sort j}
variable {p q r s t a:I->J->Prop}{E:Sort o}{f g:I->J->E}{G:E->Prop}{H:Prop}
@[elab_as_elim] theorem X2l(W:E)(h:∃x y,W=f x y)(k:∀x y,G (f x y)):G W:=by obtain⟨x,y,rfl⟩:=h;exact k x y
@[elab_as_elim] theorem X2llp{d:Sort o}(Y:d){u:I->J->d}{E1:Sort o}(w1:E1){O:I->J->E1}{G:d->E1->Prop}(h:∃x y,Y=u x y/\w1=O x y/\r x y)(k:∀x y,r x y->G (u x y) (O x y)):G Y w1:=by obtain⟨x,y,rfl,rfl,z⟩:=h;exact k x y z
@[elab_as_elim] theorem X2lp(W:E)(h:∃x y,W=f x y/\q x y)(k:∀x y,q x y->G (f x y)):G W:=by obtain⟨x,y,rfl,Y⟩:=h;exact k x y Y
@[elab_as_elim] theorem X2lpp(W:E)(h:∃x y,W=f x y/\q x y/\r x y)(k:∀x y,q x y->r x y->G (f x y)):G W:=by obtain⟨x,y,rfl,Y,z⟩:=h;exact k x y Y z
@[elab_as_elim] theorem X2lppp(W:E)(h:∃x y,W=f x y/\q x y/\r x y/\s x y)(k:∀x y,q x y->r x y->s x y->G (f x y)):G W:=by obtain⟨x,y,rfl,O,z,Y⟩:=h;exact k x y O z Y
@[elab_as_elim] theorem X2lppppp(W:E)(h:∃x y,W=f x y/\q x y/\r x y/\s x y/\t x y/\a x y)(k:∀x y,q x y->r x y->s x y->t x y->a x y->G (f x y)):G W:=by obtain⟨x,y,rfl,u,U,Y,z,T⟩:=h;exact k x y u U Y z T
theorem X2p(h:∃x y,p x y)(k:∀x y,p x y->H):H:=by obtain⟨x,y,Y⟩:=h;exact k x y Y
theorem X2pp(h:∃x y,p x y/\q x y)(k:∀x y,p x y->q x y->H):H:=by obtain⟨x,y,T,Y⟩:=h;exact k x y T Y
theorem X2ppp(h:∃x y,p x y/\q x y/\r x y)(k:∀x y,p x y->q x y->r x y->H):H:=by obtain⟨x,y,B,Y,z⟩:=h;exact k x y B Y z
theorem X2pppp(h:∃x y,p x y/\q x y/\r x y/\s x y)(k:∀x y,p x y->q x y->r x y->s x y->H):H:=by obtain⟨x,y,B,O,z,Y⟩:=h;exact k x y B O z Y
theorem X2ppppp(h:∃x y,p x y/\q x y/\r x y/\s x y/\t x y)(k:∀x y,p x y->q x y->r x y->s x y->t x y->H):H:=by obtain⟨x,y,d,T,z,Y,O⟩:=h;exact k x y d T z Y O
end
section
variable {I:Sort i}{J:Sort j}{K:Sort k}
variable {p q r s t a:I->J->K->Prop}{E:Sort o}{f g:I->J->K->E}{G:E->Prop}{H:Prop}
@[elab_as_elim] theorem X3l(W:E)(h:∃x y z,W=f x y z)(k:∀x y z,G (f x y z)):G W:=by obtain⟨x,y,z,rfl⟩:=h;exact k x y z
@[elab_as_elim] theorem X3lp(W:E)(h:∃x y z,W=f x y z/\q x y z)(k:∀x y z,q x y z->G (f x y z)):G W:=by obtain⟨x,y,z,rfl,Y⟩:=h;exact k x y z Y
@[elab_as_elim] theorem X3lpp(W:E)(h:∃x y z,W=f x y z/\q x y z/\r x y z)(k:∀x y z,q x y z->r x y z->G (f x y z)):G W:=by obtain⟨x,y,z,rfl,Y,d⟩:=h;exact k x y z Y d
@[elab_as_elim] theorem X3lppp(W:E)(h:∃x y z,W=f x y z/\q x y z/\r x y z/\s x y z)(k:∀x y z,q x y z->r x y z->s x y z->G (f x y z)):G W:=by obtain⟨x,y,z,rfl,O,T,Y⟩:=h;exact k x y z O T Y
@[elab_as_elim] theorem X3lpppp(W:E)(h:∃x y z,W=f x y z/\q x y z/\r x y z/\s x y z/\t x y z)(k:∀x y z,q x y z->r x y z->s x y z->t x y z->G (f x y z)):G W:=by obtain⟨x,y,z,rfl,u,U,Y,B⟩:=h;exact k x y z u U Y B
@[elab_as_elim] theorem X3lppppp(W:E)(h:∃x y z,W=f x y z/\q x y z/\r x y z/\s x y z/\t x y z/\a x y z)(k:∀x y z,q x y z->r x y z->s x y z->t x y z->a x y z->G (f x y z)):G W:=by obtain⟨x,y,z,rfl,u,O,Y,d,T⟩:=h;exact k x y z u O Y d T
theorem X3pp(h:∃x y z,p x y z/\q x y z)(k:∀x y z,p x y z->q x y z->H):H:=by obtain⟨x,y,z,B,Y⟩:=h;exact k x y z B Y
theorem X3ppp(h:∃x y z,p x y z/\q x y z/\r x y z)(k:∀x y z,p x y z->q x y z->r x y z->H):H:=by obtain⟨x,y,z,O,Y,d⟩:=h;exact k x y z O Y d
theorem X3pppp(h:∃x y z,p x y z/\q x y z/\r x y z/\s x y z)(k:∀x y z,p x y z->q x y z->r x y z->s x y z->H):H:=by obtain⟨x,y,z,d,O,T,Y⟩:=h;exact k x y z d O T Y
theorem X3ppppp(h:∃x y z,p x y z/\q x y z/\r x y z/\s x y z/\t x y z)(k:∀x y z,p x y z->q x y z->r x y z->s x y z->t x y z->H):H:=by obtain⟨x,y,z,T,u,U,Y,B⟩:=h;exact k x y z T u U Y B
end
section
variable {I:Sort i}{J:Sort j}{K:Sort k}{L:Sort l}
variable {p q r s t a:I->J->K->L->Prop}{E:Sort o}{f g:I->J->K->L->E}{G:E->Prop}{H:Prop}
@[elab_as_elim] theorem X4l(W:E)(h:∃x y z u,W=f x y z u)(k:∀x y z u,G (f x y z u)):G W:=by obtain⟨x,y,z,u,rfl⟩:=h;exact k x y z u
@[elab_as_elim] theorem X4lpp(W:E)(h:∃x y z u,W=f x y z u/\q x y z u/\r x y z u)(k:∀x y z u,q x y z u->r x y z u->G (f x y z u)):G W:=by obtain⟨x,y,z,u,rfl,Y,U⟩:=h;exact k x y z u Y U
@[elab_as_elim] theorem X4lppp(W:E)(h:∃x y z u,W=f x y z u/\q x y z u/\r x y z u/\s x y z u)(k:∀x y z u,q x y z u->r x y z u->s x y z u->G (f x y z u)):G W:=by obtain⟨x,y,z,u,rfl,B,U,Y⟩:=h;exact k x y z u B U Y
@[elab_as_elim] theorem X4lpppp(W:E)(h:∃x y z u,W=f x y z u/\q x y z u/\r x y z u/\s x y z u/\t x y z u)(k:∀x y z u,q x y z u->r x y z u->s x y z u->t x y z u->G (f x y z u)):G W:=by obtain⟨x,y,z,u,rfl,B,T,Y,d⟩:=h;exact k x y z u B T Y d
@[elab_as_elim] theorem X4lppppp(W:E)(h:∃x y z u,W=f x y z u/\q x y z u/\r x y z u/\s x y z u/\t x y z u/\a x y z u)(k:∀x y z u,q x y z u->r x y z u->s x y z u->t x y z u->a x y z u->G (f x y z u)):G W:=by obtain⟨x,y,z,u,rfl,U,O,Y,B,T⟩:=h;exact k x y z u U O Y B T
theorem X4p(h:∃x y z u,p x y z u)(k:∀x y z u,p x y z u->H):H:=by obtain⟨x,y,z,u,Y⟩:=h;exact k x y z u Y
theorem X4pp(h:∃x y z u,p x y z u/\q x y z u)(k:∀x y z u,p x y z u->q x y z u->H):H:=by obtain⟨x,y,z,u,O,Y⟩:=h;exact k x y z u O Y
theorem X4ppp(h:∃x y z u,p x y z u/\q x y z u/\r x y z u)(k:∀x y z u,p x y z u->q x y z u->r x y z u->H):H:=by obtain⟨x,y,z,u,d,Y,U⟩:=h;exact k x y z u d Y U
theorem X4pppp(h:∃x y z u,p x y z u/\q x y z u/\r x y z u/\s x y z u)(k:∀x y z u,p x y z u->q x y z u->r x y z u->s x y z u->H):H:=by obtain⟨x,y,z,u,T,B,U,Y⟩:=h;exact k x y z u T B U Y
end
section
variable {I:Sort i}{J:Sort j}{K:Sort k}{L:Sort l}{M:Sort m}
variable {p q r s t a:I->J->K->L->M->Prop}{E:Sort o}{f g:I->J->K->L->M->E}{G:E->Prop}{H:Prop}
@[elab_as_elim] theorem X5lp(W:E)(h:∃x y z u v,W=f x y z u v/\q x y z u v)(k:∀x y z u v,q x y z u v->G (f x y z u v)):G W:=by obtain⟨x,y,z,u,v,rfl,Y⟩:=h;exact k x y z u v Y
@[elab_as_elim] theorem X5lppp(W:E)(h:∃x y z u v,W=f x y z u v/\q x y z u v/\r x y z u v/\s x y z u v)(k:∀x y z u v,q x y z u v->r x y z u v->s x y z u v->G (f x y z u v)):G W:=by obtain⟨x,y,z,u,v,rfl,B,U,Y⟩:=h;exact k x y z u v B U Y
@[elab_as_elim] theorem X5lpppp(W:E)(h:∃x y z u v,W=f x y z u v/\q x y z u v/\r x y z u v/\s x y z u v/\t x y z u v)(k:∀x y z u v,q x y z u v->r x y z u v->s x y z u v->t x y z u v->G (f x y z u v)):G W:=by obtain⟨x,y,z,u,v,rfl,B,T,Y,d⟩:=h;exact k x y z u v B T Y d
theorem X5ppp(h:∃x y z u v,p x y z u v/\q x y z u v/\r x y z u v)(k:∀x y z u v,p x y z u v->q x y z u v->r x y z u v->H):H:=by obtain⟨x,y,z,u,v,d,Y,U⟩:=h;exact k x y z u v d Y U
theorem X5pppp(h:∃x y z u v,p x y z u v/\q x y z u v/\r x y z u v/\s x y z u v)(k:∀x y z u v,p x y z u v->q x y z u v->r x y z u v->s x y z u v->H):H:=by obtain⟨x,y,z,u,v,T,B,U,Y⟩:=h;exact k x y z u v T B U Y
theorem X5pppppp(h:∃x y z u v,p x y z u v/\q x y z u v/\r x y z u v/\s x y z u v/\t x y z u v/\a x y z u v)(k:∀x y z u v,p x y z u v->q x y z u v->r x y z u v->s x y z u v->t x y z u v->a x y z u v->H):H:=by obtain⟨x,y,z,u,v,d,U,O,Y,B,T⟩:=h;exact k x y z u v d U O Y B T
end
section
variable {I:Sort i}{J:Sort j}{K:Sort k}{L:Sort l}{M:Sort m}{N:Sort n}
variable {p q r s t a:I->J->K->L->M->N->Prop}{E:Sort o}{f g:I->J->K->L->M->N->E}{G:E->Prop}{H:Prop}
@[elab_as_elim] theorem X6lpppp(W:E)(h:∃x y z u v w,W=f x y z u v w/\q x y z u v w/\r x y z u v w/\s x y z u v w/\t x y z u v w)(k:∀x y z u v w,q x y z u v w->r x y z u v w->s x y z u v w->t x y z u v w->G (f x y z u v w)):G W:=by obtain⟨x,y,z,u,v,w,rfl,B,T,Y,d⟩:=h;exact k x y z u v w B T Y d
theorem X6p(h:∃x y z u v w,p x y z u v w)(k:∀x y z u v w,p x y z u v w->H):H:=by obtain⟨x,y,z,u,v,w,Y⟩:=h;exact k x y z u v w Y
theorem X6ppppp(h:∃x y z u v w,p x y z u v w/\q x y z u v w/\r x y z u v w/\s x y z u v w/\t x y z u v w)(k:∀x y z u v w,p x y z u v w->q x y z u v w->r x y z u v w->s x y z u v w->t x y z u v w->H):H:=by obtain⟨x,y,z,u,v,w,O,B,T,Y,d⟩:=h;exact k x y z u v w O B T Y d
theorem X6pppppp(h:∃x y z u v w,p x y z u v w/\q x y z u v w/\r x y z u v w/\s x y z u v w/\t x y z u v w/\a x y z u v w)(k:∀x y z u v w,p x y z u v w->q x y z u v w->r x y z u v w->s x y z u v w->t x y z u v w->a x y z u v w->H):H:=by obtain⟨x,y,z,u,v,w,d,U,O,Y,B,T⟩:=h;exact k x y z u v w d U O Y B T
end
end
theorem Ao{U:Prop}{p1:Prop}{G:Prop}(h:U/\p1)(k:U->p1->G):G:=by
 obtain⟨O,Y⟩:=h;exact k O Y
theorem Bl{U:Prop}{p1:Prop}{p2:Prop}{G:Prop}(h:U/\p1/\p2)(k:U->p1->p2->G):G:=by
 obtain⟨y,Y,z⟩:=h;exact k y Y z
theorem B5{U:Prop}{p1:Prop}{p2:Prop}{u:Prop}{G:Prop}(h:U/\p1/\p2/\u)(k:U->p1->p2->u->G):G:=by
 obtain⟨d,O,z,Y⟩:=h;exact k d O z Y
theorem Gz{U:Prop}{p1:Prop}{p2:Prop}{u:Prop}{z:Prop}{T:Prop}{B:Prop}{G:Prop}(h:U/\p1/\p2/\u/\z/\T/\B)(k:U->p1->p2->u->z->T->B->G):G:=by
 obtain⟨h0,h1,h2,Y,d,y,O⟩:=h;exact k h0 h1 h2 Y d y O
set_option genCtorIdx false in
inductive La where
 |v (i:Nat)
 |k (z:Int)
 |c (a:La)
 |A (a b:La)
 |S (a b:La)
 |N (a:La)
 |M (z:Int) (a:La)
 |U (a:La) (z:Int)
noncomputable abbrev La.ctorIdx(x:La):Nat:=@La.casesOn (λ_=>Nat) x (λ_=>0) (λ_=>1) (λ_=>2) (λ_ _=>3) (λ_ _=>4) (λ_=>5) (λ_ _=>6) (λ_ _=>7)
noncomputable def gt0{α:Type}(d:α):List α->Nat->α
 |[],_=>d
 |x::_,0=>x
 |_::r,n+1=>gt0 d r n
noncomputable def La.n(ns:List Nat):La->Nat
 |.v i=>gt0 0 ns i
 |.k z=>z.toNat
 |.A a b=>a.n ns+b.n ns
 |.M z a=>z.toNat * a.n ns
 |.U a z=>a.n ns * z.toNat
 |_=>0
noncomputable def La.i(ns:List Nat)(is:List Int):La->Int
 |.v i=>gt0 0 is i
 |.k z=>z
 |.c a=>(a.n ns:Nat)
 |.A a b=>a.i ns is+b.i ns is
 |.S a b=>a.i ns is - b.i ns is
 |.N a=>-(a.i ns is)
 |.M z a=>z * a.i ns is
 |.U a z=>a.i ns is * z
structure Lp where
 k:Int
 n:List Int
 i:List Int
noncomputable def C4:List Int->List Int->Int
 |c::r,x::s=>c * x+C4 r s
 |_,_=>0
noncomputable def addL:List Int->List Int->List Int
 |[],b=>b
 |x::r,[]=>x::r
 |x::r,y::s=>(x+y)::addL r s
noncomputable def mulL(z:Int):List Int->List Int
 |[]=>[]
 |x::r=>z * x::mulL z r
noncomputable def one:Nat->List Int
 |0=>[1]
 |n+1=>0::one n
noncomputable def Jz:List Nat->List Int
 |[]=>[]
 |x::r=>(x:Int)::Jz r
noncomputable def Lp.ev(ns:List Nat)(is:List Int)(p:Lp):Int:=p.k+(C4 p.n (Jz ns)+C4 p.i is)
noncomputable def Lp.add(p q:Lp):Lp:=⟨p.k+q.k,addL p.n q.n,addL p.i q.i⟩
noncomputable def Lp.mul(z:Int)(p:Lp):Lp:=⟨z * p.k,mulL z p.n,mulL z p.i⟩
theorem Hm:∀a b l,C4 (addL a b) l=C4 a l+C4 b l
 |[],b,l=>(cV _).symm
 |x::r,[],l=>(bH _).symm
 |x::r,y::s,[]=>rfl
 |x::r,y::s,u::l=>by
  show (x+y) * u+C4 (addL r s) l=(x * u+C4 r l)+(y * u+C4 s l);rw[Hm r s l,Int.add_mul,dJ,dJ,gB (y * u)]
theorem Hl(z:Int):∀a l,C4 (mulL z a) l=z * C4 a l
 |[],l=>(Int.mul_zero _).symm
 |x::r,[]=>(Int.mul_zero _).symm
 |x::r,u::l=>by
  show z * x * u+C4 (mulL z r) l=z * (x * u+C4 r l);rw[Hl z r l,Int.mul_add,Int.mul_assoc]
theorem Hk:∀i l,C4 (one i) l=gt0 0 l i
 |0,[]=>rfl
 |_+1,[]=>rfl
 |0,u::l=>by show 1 * u+0=u;rw[Int.one_mul,bH]
 |i+1,u::l=>by show 0 * u+C4 (one i) l=gt0 0 l i;rw[Hk i l,Int.zero_mul,cV]
theorem Lf:∀l i,gt0 0 (Jz l) i=((gt0 0 l i:Nat):Int)
 |[],_=>rfl
 |_::_,0=>rfl
 |_::r,i+1=>Lf r i
theorem Lp.ev_add(ns is)(p q:Lp):Lp.ev ns is (p.add q)=p.ev ns is+q.ev ns is:=by
 show (p.k+q.k)+(C4 (addL p.n q.n) _+C4 (addL p.i q.i) _)=(p.k+(_+_))+(q.k+(_+_));rw[Hm,Hm];generalize C4 p.n (Jz ns)=a;generalize C4 p.i is=b;generalize C4 q.n (Jz ns)=c;generalize C4 q.i is=d;rw[dJ,dJ p.k,gB (a+b),dJ a c,gB c b,dJ a b]
theorem Lp.ev_mul(ns is z)(p:Lp):Lp.ev ns is (Lp.mul z p)=z * p.ev ns is:=by
 show z * p.k+(C4 (mulL z p.n) _+C4 (mulL z p.i) _)=z * (p.k+(_+_));rw[Hl,Hl,Int.mul_add,Int.mul_add]
noncomputable def La.pn:La->Lp
 |.v i=>⟨0,one i,[]⟩
 |.k z=>⟨z.toNat,[],[]⟩
 |.A a b=>a.pn.add b.pn
 |.M z a=>Lp.mul z.toNat a.pn
 |.U a z=>Lp.mul z.toNat a.pn
 |_=>⟨0,[],[]⟩
noncomputable def La.p:La->Lp
 |.v i=>⟨0,[],one i⟩
 |.k z=>⟨z,[],[]⟩
 |.c a=>a.pn
 |.A a b=>a.p.add b.p
 |.S a b=>a.p.add (Lp.mul (-1) b.p)
 |.N a=>Lp.mul (-1) a.p
 |.M z a=>Lp.mul z a.p
 |.U a z=>Lp.mul z a.p
theorem ev_k(ns is z):Lp.ev ns is ⟨z,[],[]⟩=z:=bH _
theorem La.pn_ok(ns is):∀t:La,((t.n ns:Nat):Int)=Lp.ev ns is t.pn
 |.v i=>by show _=0+(C4 (one i) _+0);rw[Hk,Lf,cV,bH];rfl
 |.k z=>(ev_k _ _ _).symm
 |.A a b=>by show ((a.n ns+b.n ns:Nat):Int)=Lp.ev ns is (a.pn.add b.pn);rw[Lp.ev_add,<- pn_ok ns is a,<- pn_ok ns is b];rfl
 |.M z a=>by show ((z.toNat * a.n ns:Nat):Int)=Lp.ev ns is (Lp.mul z.toNat a.pn);rw[Lp.ev_mul,<- pn_ok ns is a];rfl
 |.U a z=>by show ((a.n ns * z.toNat:Nat):Int)=Lp.ev ns is (Lp.mul z.toNat a.pn);rw[Lp.ev_mul,<- pn_ok ns is a,Nat.mul_comm];rfl
 |.c _|.S _ _|.N _=>rfl
theorem La.p_ok(ns is):∀t:La,t.i ns is=Lp.ev ns is t.p
 |.v i=>by show _=0+(0+C4 (one i) _);rw[Hk,cV,cV];rfl
 |.k z=>(ev_k _ _ _).symm
 |.c a=>a.pn_ok ns is
 |.A a b=>by show a.i ns is+b.i ns is=Lp.ev ns is (a.p.add b.p);rw[Lp.ev_add,<- p_ok ns is a,<- p_ok ns is b]
 |.S a b=>by show a.i ns is - b.i ns is=Lp.ev ns is (a.p.add (Lp.mul (-1) b.p));rw[Lp.ev_add,Lp.ev_mul,<- p_ok ns is a,<- p_ok ns is b,fZ];rfl
 |.N a=>by show -(a.i ns is)=Lp.ev ns is (Lp.mul (-1) a.p);rw[Lp.ev_mul,<- p_ok ns is a,fZ]
 |.M z a=>by show z * a.i ns is=Lp.ev ns is (Lp.mul z a.p);rw[Lp.ev_mul,<- p_ok ns is a]
 |.U a z=>by show a.i ns is * z=Lp.ev ns is (Lp.mul z a.p);rw[Lp.ev_mul,<- p_ok ns is a,Int.mul_comm]
set_option genCtorIdx false in
inductive Lc where
 |B (k:Nat) (a b:La)
 |C (k:Nat) (a b:La)
 |D (k:Int) (a b:La)
 |F (k:Nat) (a b:La)
 |G (k:Nat) (a b:La)
 |H (k:Int) (a b:La)
 |I (k:Nat) (a b:La)
 |J (k:Nat) (a b:La)
 |K (k:Nat) (a b:La)
 |L (k:Nat) (a b:La)
 |no
noncomputable abbrev Lc.ctorIdx(x:Lc):Nat:=@Lc.casesOn (λ_=>Nat) x (λ_ _ _=>0) (λ_ _ _=>1) (λ_ _ _=>2) (λ_ _ _=>3) (λ_ _ _=>4) (λ_ _ _=>5) (λ_ _ _=>6) (λ_ _ _=>7) (λ_ _ _=>8) (λ_ _ _=>9) 10
def Lc.den(ns:List Nat)(is:List Int):Lc->Prop
 |.B _ a b=>a.n ns<=b.n ns
 |.C _ a b=>a.n ns<b.n ns
 |.D _ a b=>a.n ns=b.n ns
 |.F _ a b=>a.i ns is<=b.i ns is
 |.G _ a b=>a.i ns is<b.i ns is
 |.H _ a b=>a.i ns is=b.i ns is
 |.I _ a b=>¬(a.n ns<=b.n ns)
 |.J _ a b=>¬(a.n ns<b.n ns)
 |.K _ a b=>¬(a.i ns is<=b.i ns is)
 |.L _ a b=>¬(a.i ns is<b.i ns is)
 |.no=>False
noncomputable def Lp.df(k d:Int)(a b:Lp):Lp:=Lp.mul k (b.add (Lp.mul (-1) (a.add ⟨d,[],[]⟩)))
noncomputable def Lc.p:Lc->Lp
 |.B k a b=>Lp.df k 0 a.pn b.pn
 |.C k a b=>Lp.df k 1 a.pn b.pn
 |.D k a b=>Lp.df k 0 a.pn b.pn
 |.F k a b=>Lp.df k 0 a.p b.p
 |.G k a b=>Lp.df k 1 a.p b.p
 |.H k a b=>Lp.df k 0 a.p b.p
 |.I k a b=>Lp.df k 1 b.pn a.pn
 |.J k a b=>Lp.df k 0 b.pn a.pn
 |.K k a b=>Lp.df k 1 b.p a.p
 |.L k a b=>Lp.df k 0 b.p a.p
 |.no=>⟨0,[],[]⟩
noncomputable def Lc.nt:Lc->Lc
 |.B k a b=>.C k b a
 |.C k a b=>.B k b a
 |.F k a b=>.G k b a
 |.G k a b=>.F k b a
 |.I k a b=>.B k a b
 |.J k a b=>.C k a b
 |.K k a b=>.F k a b
 |.L k a b=>.G k a b
 |_=>.D 0 (.k 0) (.k 0)
theorem Gj{ns is}{k:Nat}{d:Int}{a b:Lp}(h:a.ev ns is+d<=b.ev ns is):0<=(Lp.df k d a b).ev ns is:=by
 unfold Lp.df;rw[Lp.ev_mul,Lp.ev_add,Lp.ev_mul,Lp.ev_add,ev_k,fZ];exact Int.mul_nonneg (dX k) (Int.sub_nonneg_of_le h)
theorem df_eq{ns is}{k:Int}{a b:Lp}(h:a.ev ns is=b.ev ns is):0<=(Lp.df k 0 a b).ev ns is:=by
 unfold Lp.df;rw[Lp.ev_mul,Lp.ev_add,Lp.ev_mul,Lp.ev_add,ev_k,fZ,bH,h,Int.add_right_neg,Int.mul_zero];exact eZ _
theorem Lc.ok(ns is):∀c:Lc,c.den ns is->0<=c.p.ev ns is
 |.B k a b,h=>Gj (by rw[bH,<- La.pn_ok,<- La.pn_ok];exact dY.mpr h)
 |.C k a b,h=>Gj (by rw[<- La.pn_ok,<- La.pn_ok];exact dY.mpr h)
 |.D k a b,h=>df_eq (by rw[<- La.pn_ok,<- La.pn_ok];exact congrArg _ h)
 |.F k a b,h=>Gj (by rw[bH,<- La.p_ok,<- La.p_ok];exact h)
 |.G k a b,h=>Gj (by rw[<- La.p_ok,<- La.p_ok];exact h)
 |.H k a b,h=>df_eq (by rw[<- La.p_ok,<- La.p_ok];exact h)
 |.I k a b,h=>Gj (by rw[<- La.pn_ok,<- La.pn_ok];exact dY.mpr (Nat.lt_of_not_le h))
 |.J k a b,h=>Gj (by rw[bH,<- La.pn_ok,<- La.pn_ok];exact dY.mpr (Nat.le_of_not_lt h))
 |.K k a b,h=>Gj (by rw[<- La.p_ok,<- La.p_ok];exact Int.lt_of_not_ge h)
 |.L k a b,h=>Gj (by rw[bH,<- La.p_ok,<- La.p_ok];exact fH.mp h)
 |.no,h=>h.elim
theorem Lc.nt_ok(ns is):∀c:Lc,c.nt.den ns is\/c.den ns is
 |.B _ a b=>bL (b.n ns) (a.n ns)
 |.C _ a b=>(bL (a.n ns) (b.n ns)).symm
 |.F _ a b=>Int.lt_or_le (b.i ns is) (a.i ns is)
 |.G _ a b=>(Int.lt_or_le (a.i ns is) (b.i ns is)).symm
 |.I _ a b=>ic (a.n ns<=b.n ns)
 |.J _ a b=>ic (a.n ns<b.n ns)
 |.K _ a b=>ic (a.i ns is<=b.i ns is)
 |.L _ a b=>ic (a.i ns is<b.i ns is)
 |.D _ _ _|.H _ _ _|.no=>.inl rfl
noncomputable def tot:List Lc->Lp
 |[]=>⟨0,[],[]⟩
 |c::r=>c.p.add (tot r)
noncomputable def np:Int->Bool
 |.ofNat 0=>true
 |.ofNat _=>false
 |.negSucc _=>true
noncomputable def nz:Int->Bool
 |.ofNat 0=>true
 |_=>false
noncomputable def ng:Int->Bool
 |.ofNat _=>false
 |.negSucc _=>true
noncomputable def Lp.bad(p:Lp):Bool:=ng p.k && (p.n.all np && p.i.all nz)
def dAll(ns:List Nat)(is:List Int)(P:Prop):List Lc->Prop
 |[]=>P
 |c::r=>c.den ns is->dAll ns is P r
theorem ands{a b:Bool}(h:(a && b)=true):a=true/\b=true:=by
 cases a
 .cases h
 .exact⟨rfl,h⟩
theorem np_le{z:Int}(h:np z=true):z<=0:=by
 cases z with
 |ofNat n=>cases n with
  |zero=>exact eZ _
  |succ n=>cases h
 |negSucc n=>exact Int.negSucc_le_zero n
theorem nz_eq{z:Int}(h:nz z=true):z=0:=by
 cases z with
 |ofNat n=>cases n with
  |zero=>rfl
  |succ n=>cases h
 |negSucc n=>cases h
theorem ng_lt{z:Int}(h:ng z=true):z<0:=by
 cases z with
 |ofNat n=>cases h
 |negSucc n=>exact Int.negSucc_lt_zero n
theorem np_all:∀{l:List Int},l.all np=true->∀ns,C4 l (Jz ns)<=0
 |[],_,_=>eZ _
 |z::r,_,[]=>eZ _
 |z::r,h,n::s=>by
  have h:=ands h;exact Int.add_nonpos (Int.mul_nonpos_of_nonpos_of_nonneg (np_le h.1) (dX n)) (np_all h.2 s)
theorem nz_all:∀{l:List Int},l.all nz=true->∀is,C4 l is=0
 |[],_,_=>rfl
 |z::r,_,[]=>rfl
 |z::r,h,n::s=>by
  have h:=ands h;show z * n+C4 r s=0;rw[nz_eq h.1,nz_all h.2 s,Int.zero_mul];rfl
theorem bad_lt{p:Lp}(h:p.bad=true)(ns is):p.ev ns is<0:=by
 have Y:=ands h;have z:=ands Y.2;have e:=np_all z.1 ns;unfold Lp.ev;rw[nz_all z.2 is,bH];exact Int.add_neg_of_neg_of_nonpos (ng_lt Y.1) e
theorem dAll_of{ns is}{P:Prop}:∀(U:List Lc),(0<=(tot U).ev ns is->P)->dAll ns is P U
 |[],h=>h (eZ _)
 |c::r,h=>λd=>dAll_of r λy=>h (by
  show 0<=(c.p.add (tot r)).ev ns is;rw[Lp.ev_add];exact Int.add_nonneg (c.ok ns is d) y)
abbrev K0:La:=.k 0
abbrev K1:La:=.k 1
abbrev FL:La:=.k 100
abbrev AG:La:=.k 1000
abbrev IK:La:=.k 10000
abbrev Ay:La:=.k 1000000
abbrev B8:La:=.k 10000000
abbrev K14:La:=.k 14
abbrev K15:La:=.k 15
abbrev A6:La:=.k 16777216
abbrev K17:La:=.k 17
abbrev K18:La:=.k 18
abbrev K2:La:=.k 2
abbrev K28:La:=.k 28
abbrev K29:La:=.k 29
abbrev K3:La:=.k 3
abbrev K30:La:=.k 30
abbrev K36:La:=.k 36
abbrev K4:La:=.k 4
abbrev K5:La:=.k 5
abbrev K6:La:=.k 6
abbrev K61:La:=.k 61
abbrev K63:La:=.k 63
abbrev K64:La:=.k 64
abbrev K7:La:=.k 7
abbrev K8:La:=.k 8
abbrev L9:La:=.k 900
abbrev B7:La:=.k 9000
abbrev C3:La:=.k 92233720368547758
abbrev Ci:La:=.k 9223372036854775808
abbrev Hv:La:=.k 9900
abbrev Km1:La:=.k (-1)
abbrev Km100:La:=.k (-100)
abbrev Bm:La:=.k (-1000000)
abbrev Cg:La:=.k (-10000000)
abbrev B6:La:=.k (-9223372036854775808)
abbrev V0:La:=.v 0
abbrev V1:La:=.v 1
abbrev V2:La:=.v 2
abbrev V3:La:=.v 3
abbrev V4:La:=.v 4
abbrev V5:La:=.v 5
abbrev V6:La:=.v 6
abbrev Lc.b(x y:La):Lc:=.B 1 x y
abbrev Lc.c(x y:La):Lc:=.C 1 x y
abbrev Lc.d(x y:La):Lc:=.D 1 x y
abbrev Lc.f(x y:La):Lc:=.F 1 x y
abbrev Lc.g(x y:La):Lc:=.G 1 x y
abbrev Lc.h(x y:La):Lc:=.H 1 x y
abbrev Lc.i(x y:La):Lc:=.I 1 x y
abbrev Lc.j(x y:La):Lc:=.J 1 x y
abbrev Lc.k(x y:La):Lc:=.K 1 x y
abbrev Lc.l(x y:La):Lc:=.L 1 x y
theorem lin(ns:List Nat)(is:List Int)(g:Lc)(cs:List Lc)(h:((g.nt.p).add (tot cs)).bad=true):dAll ns is (g.den ns is) cs :=
 dAll_of cs λhs=>(g.nt_ok ns is).elim (λd=>(gq.mpr (bad_lt h ns is) (by rw[Lp.ev_add];exact Int.add_nonneg (Lc.ok ns is _ d) hs)).elim) id
theorem sub_sp(a b:Nat):(b<=a/\a - b+b=a)\/(a<b/\a - b=0) :=
 (bL a b).symm.imp (λh=>⟨h,ak h⟩) λh=>⟨h,Nat.sub_eq_zero_of_le (dE h)⟩
theorem HB(z:Int):(0<=z/\(z.toNat:Int)=z)\/(z<0/\z.toNat=0) :=
 (Int.lt_or_le z 0).symm.imp (λh=>⟨h,ao h⟩) λh=>⟨h,Int.toNat_of_nonpos (Int.le_of_lt h)⟩
theorem Kt(a b:Nat):max a b=a\/max a b=b:=(Nat.le_total b a).imp Nat.max_eq_left Nat.max_eq_right
theorem GV(a b:Nat):min a b=a\/min a b=b:=(Nat.le_total a b).imp Nat.min_eq_left Nat.min_eq_right
theorem Ct(a b:Int):max a b=a\/max a b=b:=(Int.le_total b a).imp Int.max_eq_left Int.max_eq_right
end
section
noncomputable def isF:Data->Bool
 |.fields _=>true
 |_=>false
theorem nDf{d:Data}{xs:Array Value}{C:Prop}(k:isF d=false)(h:d=.fields xs):C:=by rw[h]at k;exact nomatch k
noncomputable def Jw(B:Nat):List Nat->Nat
 |[]=>0
 |c::l=>Jw B l * B+(c+1)
theorem LE{B a b c d:Nat}(U:c+1<B)(y:d+1<B)(h:a * B+(c+1)=b * B+(d+1)):c=d/\a=b:=by
 have u:(a * B+(c+1)) % B=c+1:=by rw[Nat.mul_comm,Nat.mul_add_mod,Nat.mod_eq_of_lt U]
 have T:(b * B+(d+1)) % B=d+1:=by rw[Nat.mul_comm,Nat.mul_add_mod,Nat.mod_eq_of_lt y]
 rw[h,T]at u;have z:d=c:=fe u;clear u;subst z;have Y:0<B:=dv (di _) U;exact⟨rfl,Nat.eq_of_mul_eq_mul_right Y (Nat.add_right_cancel h)⟩
theorem codeB_inj{B:Nat}:∀(a b:List Nat),(∀c∈a,c+1<B)->(∀c∈b,c+1<B)->Jw B a=Jw B b->a=b
 |[],[],_,_,_=>rfl
 |[],c::l,_,_,h=>by simp[Jw]at h
 |c::l,[],_,_,h=>by simp[Jw]at h
 |c::l,d::k,ha,hb,h=>by
  refine Ao (LE (ha c (.head _)) (hb d (.head _)) h) λY z=>?_;rw[Y,codeB_inj l k (λx u=>ha x (.tail _ u)) (λx u=>hb x (.tail _ u)) z]
noncomputable def codeL(l:List Nat):Nat:=Jw 2097152 l
noncomputable def Kq(l:List Nat):Bool:=l.all λc=>gE (c+1) 2097152
theorem LN(a b:List Nat)(ha:Kq a=true)(z:Kq b=true)(h:codeL a=codeL b):a=b :=
 codeB_inj a b (λc d=>by have:=bU.mp ha c d;exact eA.mp this) (λc d=>by have:=bU.mp z c d;exact eA.mp this) h
noncomputable def code(x:Str):Nat:=if Kq x.cps.toList then codeL x.cps.toList else 0
theorem code_inj{x y:Str}(h:code x=code y)(u:code x≠0):x=y:=by
 unfold code at h u
 by_cases a:Kq x.cps.toList=true
 .rw[if_pos a]at h u
  by_cases b:Kq y.cps.toList=true
  .rw[if_pos b]at h
   have:=LN _ _ a b h
   obtain⟨⟨T⟩⟩:=x;obtain⟨⟨O⟩⟩:=y;simp only at this;rw[this]
  .rw[if_neg b]at h;exact absurd h u
 .rw[if_neg a]at u;exact absurd rfl u
noncomputable def ixN:List Nat->Nat->Option Nat
 |[],_=>none
 |d::l,c=>if bV c d then some 0 else (ixN l c).map (·+1)
theorem G5:∀{l:List Nat}{c i:Nat},ixN l c=some i->l[i]?=some c
 |[],_,_,h=>by exact nS h
 |d::l,c,i,h=>by
  unfold ixN at h
  by_cases e:bV c d=true
  .rw[if_pos e]at h;obtain rfl:=ae h;simp[bt e]
  .rw[if_neg e]at h
   cases q:ixN l c with
   |none=>rw[q]at h;exact nS h
   |some j=>rw[q]at h;obtain rfl:=ae h;simpa using G5 q
noncomputable def ixS(tb:List Nat)(x:Str):Option Nat:=if code x=0 then none else ixN tb (code x)
theorem BN{tb:List Nat}{x y:Str}{i:Nat}(d:ixS tb x=some i)(u:ixS tb y=some i):x=y:=by
 unfold ixS at d u
 by_cases a:code x=0
 .rw[if_pos a]at d;exact nS d
 .by_cases b:code y=0
  .rw[if_pos b]at u;exact nS u
  .rw[if_neg a]at d
   rw[if_neg b]at u;have Y:=G5 d;have z:=G5 u;rw[Y]at z;exact code_inj (ae z) a
noncomputable def GT:List Nat:=[488183376642157,80033084540641898480094239089228231436665003453574281166954,514571674583146,1005348044598614687843,1972967942959123809794261109,1079135038485626355821,505775594143860,1079134968116882178149,1972967896842254829385416819,38162751627490379747452398003482574466029863143735398,4097048712905654171746245472682100,483785363685492,510173602906210,488183385030766,532163833364590,479387298300002,536561907138658,90233379350378998227153712756468239537380784352481645690967,90233379350378998227153712756468490993895923976323018522695,20516695110558990338349423043768236959579766851,4097048712905654171746245443321937,1953625065281667892816904265,4421567401963634344580608052691023,38911039395368713077120569378125327593434223166357571,18554229448017460382995876969397224232426930255,43400773495684931299990303152339635632874951695925327,4502697156435267283308154296729679,9953264140782547107729548004762710966339,26938412273360973710146055992342944584562113553367118,2224424541109078390632087623,18197417354700030340848489945371723337639657578,9953263775699387013229657059599239348330,18375823571499401479770734400747965486269988976,9187628571821442950012028645006517469290,9527911019871981142584984497405730750575,181005589184799986677156147774642533556690027265787335787732271220,20695101752711969165474692825965948435387383906,166196047384272537809289455056229126457739035918218201144596889700,18197416589064299120564216867920607479947329642,169487057283544435640426665101935405545032624369300756501555576945,45645636799317123958615858659419724959709671387562093,171132561056231666204508540239819374032478365443519710043144454261,4502697098406625027691511828971629,846730049398473916085087584128933697840380091329857293191965510740677956206701,18375823571499401479790077204638471496639971433,18375823571499401479790077213861799553046413428,396850582782009359370119880267881792802359345170147795437217238556344423,95725838504961505145080012563471106329936091183885114671209,80817726747295587368214924465216021871482886418226535727209,190878618882635509821928589408131882311271528517103037820484714594,91018018938022645045637264236535371547050118533823877611626,181005589184799986677156147774642655251399105783183241273292095597,81602364090076287366173780493044425818343523366074587283562,3310185146202486990159897262910785962440316216946269930930577122749621626347220819221938276,9953263207791589283113833233319297286261,18375823571499401479790077296872209457415716981,43774914525127606634948462309549954583142299009548405,192524123439955219288904614187488428846096326495758438584626970741,4583826736821425400178084581212266,189233104125027351079044284948292633439235375008653565194139598959,182651085895739159611544028051033954835980804142498541835594498168,18375823571499401479770734400748049049147408493,18375823571499401479770734400748018262823927926,41530051043090558306419451808164507616289346805563503,171132561056231666204508540239819374032478365591093693419117084781,358890992684198351244117494181017679890960069356093321341288232567963757,3310185146202486990197856839844549527063395318482692411445352864523095987143731162826932328,10378616207007581569746392292124973334644,10378616207007581569727945570041487949924,91802658151523121551182478706899233711977115684111583805556,21765535735758363704234157414456811028979122279,43774918628465233588782538751077194349118739659620467,403752322546769924304731750433691914414489823876796984833443022619279456,79248447572009185758333506431352985962475023867187635945568,7742956824657454511956318923814547708781627226174131122382169039603859410782705933984571542470752,421006690059250891097143695140917066809609715599597812568445437129785440,839493061075507520855370235839129965667347155426955459942090491728453699633248,91018015944868005415624299308479862754795154219907449618528,91018015570724656694342399756974592903473822180854263185504,80033088656230687610814220734090481631045705683825583980640,91018014074146266443651458333636699022498581066138634944608,18197418120334909699774667083190765414510493792,81602364090077357802283592532699828490939855109768301510752,43774916844405617705602520682488447646056418390311008,376145337159623361912698492388468032872923258503129083604288419640901728,3723957881593141820746691508245982495671109949404972261701025290226972580569300003874406496,41530051043090558306419451808164535286304302314815584,7742956665513927798097241316892216214588599199992503912193136464043409796016289409272493773946976,882915022071138124765372453842085820144227560863652118647196572824639041962080,90233375608932308976580008428965506433129796719669223096416,37788605781087166882797726435001178606952615065419872,91802656280803345044191614365910231084237604146364133933152,166196040322526725043969524243678063596587590643091508768591052896,348538364936483441850335885126143820542383599358076084550426633208594528,846730049398473916085087584128933697840465161678198612564186553338684774547552,91018012951712652162785828947459767547022670722609534992480,82387004051868278273799477919677025937730432309507471179872,400301477346956824698566919056352424534797759621257456523006554629210208,90233375608934093035855608268506975583308188893790917886048,167841544095212084885777211650720385374882549712431272192582352992,3723958154780933078993815348549031929600789542461701977153418488425042733009601494769467488,79248447572006866481683564677070781918793014781436403646560,190878607897710840194831257729729748984291347386754377891931226208,348538358354479336047783637559236661292520842545390999917957776140140640,42278337562126394882722636668977402652438790710231136,400301477346956824694077185134442593252847708572699835991927056798580832,38162750378648648629778066780632868089197520152952928,348538358354469920392561545711964376848906820579848583725870345019719776,40407615109529299628999473434303460201105905516806240,91018016693157914166177253055962971198019440249030815252576,400301455955399148798322214679042067742290137871126482889589276698214496,403752355456873624927459489802379276535130602047601608300036202864574560,91802655906658390669510632506423932130708194924539850784864,43774918628465233588782538751077369593187439915040864,37788603818620738706104457995284705495682434113470560,3692129528359153038004073583514481007015027167786146815651303681903408044680313940553498720,19446259085817177329131502603843663253859205216,348538358354470705026162880436335778493756426633483496118712640695435360,91802656280800312142504332077630959006909194449134567817312,527765786853485,2108367634755896306667880544]
noncomputable def AT:List Nat:=[4097048886990833845663497717809250,496979490635889,4746086071678939754579271075496042,2224424411981825894200115300,4097048886990833845681089920630886,8677205062005183289952466234080782975091,514571655708776,91802653661792946164417784946020646843673666288009024110708,1023794762284045172843,2263110111996501108962885748,8677204412967747145340641066502926106739,2243767400339812224105185397,488183414390896,4097048886990981419611689351905378,1069911684040970207347,510173600809065,2243767326552783152708845668,4137613512770042941672065802960995,9868193305663397248283467000068658167908,2224424448875353624042012778]
set_option genCtorIdx false in
inductive E where
 |none
 |bool (b:Bool)
 |int (i:Int)
 |str (s:Str)
 |v (i:Nat)
 |g (i:Nat)
 |tup (es:List E)
 |list (es:List E)
 |dict (ks vs:List E)
 |bin (op:gR) (l r:E)
 |neg (x:E)
 |not (x:E)
 |and (es:List E)
 |or (es:List E)
 |cmp (op:CmpOp) (l r:E)
 |cmp2 (o1 o2:CmpOp) (a b c:E)
 |ite (c a b:E)
 |sub (o i:E)
 |slice (o lo hi st:E)
 |attr (o:E) (n:Nat)
 |call (f:E) (args:List E)
 |sorted (x f:E)
 |meth (o:E) (n:Nat) (args:List E)
 |comp (elt:E) (x:Nat) (src:E) (c:List E)
 |mu (l:Nat) (e:E)
noncomputable abbrev E.ctorIdx(x:E):Nat:=@E.casesOn (λ_=>Nat) x 0 (λ_=>1) (λ_=>2) (λ_=>3) (λ_=>4) (λ_=>5) (λ_=>6) (λ_=>7) (λ_ _=>8) (λ_ _ _=>9) (λ_=>10) (λ_=>11) (λ_=>12) (λ_=>13) (λ_ _ _=>14) (λ_ _ _ _ _=>15) (λ_ _ _=>16) (λ_ _=>17) (λ_ _ _ _=>18) (λ_ _=>19) (λ_ _=>20) (λ_ _=>21) (λ_ _ _=>22) (λ_ _ _ _=>23) (λ_ _=>24)
set_option genCtorIdx false in
inductive Pat where
 |v (i:Nat)
 |tup (ps:List Pat)
noncomputable abbrev Pat.ctorIdx(x:Pat):Nat:=@Pat.casesOn (λ_=>Nat) x (λ_=>0) (λ_=>1)
set_option genCtorIdx false in
inductive S where
 |assign (p:Pat) (e:E)
 |setattr (o:E) (n:Nat) (e:E)
 |setitem (o i e:E)
 |expr (e:E)
 |ret (e:E)
 |ite (c:E) (a b:List S)
 |for_ (p:Pat) (e:E) (body:List S)
 |while_ (c:E) (body:List S)
 |raise (e:E)
 |try_ (body:List S) (cls:E) (x:Option Nat) (h:List S)
 |pass
noncomputable abbrev S.ctorIdx(x:S):Nat:=@S.casesOn (λ_=>Nat) x (λ_ _=>0) (λ_ _ _=>1) (λ_ _ _=>2) (λ_=>3) (λ_=>4) (λ_ _ _=>5) (λ_ _ _=>6) (λ_ _=>7) (λ_=>8) (λ_ _ _ _=>9) 10
noncomputable def okName(x:Str):Bool:=!(bV (code x) 35917881366025429935618926129718285898815186866798688) && !(bV (code x) 694752866707914342600158099379000926982518397911170979246594950709587596017760)
theorem A8{x:Str}(h:okName x=true):(x == ("__debug__":Str))=false:=by
 cases q:x == ("__debug__":Str)with
 |false=>rfl
 |true =>
  rw[eq_of_beq q]at h
  have:okName ("__debug__":Str)=false:=by decide +kernel
  rw[this]at h;exact nF h
theorem Kp{x:Str}(h:okName x=true):(x == ("__classdict__":Str))=false:=by
 cases q:x == ("__classdict__":Str)with
 |false=>rfl
 |true =>
  rw[eq_of_beq q]at h
  have:okName ("__classdict__":Str)=false:=by decide +kernel
  rw[this]at h;exact nF h
noncomputable def relab(sc names:List (Str×cG)):List (Str×cG) :=
 names.map λ(n,k)=>if (k == .free && sc.lookup n == some .cell) then (n,.cell) else (n,k)
noncomputable def Bc:aj->Bool
 |.Starred ..=>false
 |_=>true
noncomputable def Dz:aj->Bool
 |.Call (.Name _ _) [] [] _=>false
 |_=>true
noncomputable def BM:aj->Bool
 |.Slice ..=>false
 |_=>true
noncomputable def Bd:aj->Bool
 |.Set ..=>false
 |_=>true
noncomputable def DL(tb:List Nat)(sc:List (Str×cG))(x:Str)(p:Str×cG):Bool:=match p.2 with
 |.local|.cell=>(ixS tb p.1).isNone || ixS tb p.1 == ixS tb x
 |.free=>sc.lookup p.1 == some .cell
 |.globalImplicit=>true
 |.globalExplicit=>false
end
section
abbrev Ag:=Int×Int
set_option genCtorIdx false in
set_option genInjectivity true in
inductive AV where
 |none
 |bool (b:Bool)
 |int (i:Int)
 |str (s:Str)
 |tup (l:List AV)
 |list (l:List AV)
 |dict (l:List (Ag×AV))
 |inst (fs:List (Str×AV))
 |loc (a:Addr) (i:Nat)
 |exc (c:Nat)
 |range (a b c:Int)
 |nums (l:List Int)
 |cls (c:Nat)
noncomputable abbrev AV.ctorIdx(x:AV):Nat:=@AV.casesOn (λ_=>Nat) x 0 (λ_=>1) (λ_=>2) (λ_=>3) (λ_=>4) (λ_=>5) (λ_=>6) (λ_=>7) (λ_ _=>8) (λ_=>9) (λ_ _ _=>10) (λ_=>11) (λ_=>12)
set_option genCtorIdx false in
inductive AObj where
 |list (l:List AV)
 |dict (l:List (Ag×AV))
 |inst (dx:Addr)
 |attrs (fs:List (Str×AV))
noncomputable abbrev AObj.ctorIdx(x:AObj):Nat:=@AObj.casesOn (λ_=>Nat) x (λ_=>0) (λ_=>1) (λ_=>2) (λ_=>3)
theorem Am{α:Type}{x:Option α}{o:α}(q:x=aa)(e:x=some o):False:=by rw[q]at e;exact nS e
theorem AD{α β:Type}{o:Option α}{f:α->Option β}{b:β}(h:o.bind f=some b):∃a,o=some a/\f a=some b:=by
 cases o with|none=>exact nS h|some a=>exact⟨a,rfl,h⟩
noncomputable def one?{α:Type}:List α->Option α
 |[]=>aa
 |a::r=>(match r with
  |[]=>some a
  |_::_=>aa)
noncomputable def two?{α:Type}:List α->Option (α×α)
 |[]=>aa
 |a::r=>(one? r).bind λb=>some (a,b)
theorem one?_out{α:Type}{l:List α}{a:α}(h:one? l=some a):l=[a]:=by
 cases l with
 |nil=>exact nS h
 |cons b r =>
  cases r with
  |nil=>obtain rfl:=ae h;rfl
  |cons _ _=>exact nS h
theorem two?_out{α:Type}{l:List α}{p:α×α}(h:two? l=some p):l=[p.1,p.2]:=by
 cases l with
 |nil=>exact nS h
 |cons a r =>
  refine X1pp (AD h) λb Y z=>?_;obtain rfl:=ae z;rw[one?_out Y]
noncomputable def AV.int?:AV->Option Int
 |.int x=>some x
 |_=>aa
noncomputable def AV.tup?:AV->Option (List AV)
 |.tup l=>some l
 |_=>aa
theorem AV.int?_out{a:AV}{x:Int}(h:a.int?=some x):a=.int x:=by
 cases a with
 |int y=>obtain rfl:=ae h;rfl
 |_=>exact(Am rfl h).elim
theorem AV.tup?_out{a:AV}{l:List AV}(h:a.tup?=some l):a=.tup l:=by
 cases a with
 |tup y=>obtain rfl:=ae h;rfl
 |_=>exact(Am rfl h).elim
noncomputable def AObj.list?:AObj->Option (List AV)
 |.list l=>some l
 |_=>aa
noncomputable def AObj.dict?:AObj->Option (List (Ag×AV))
 |.dict l=>some l
 |_=>aa
noncomputable def AObj.inst?:AObj->Option Addr
 |.inst d=>some d
 |_=>aa
noncomputable def AObj.attrs?:AObj->Option (List (Str×AV))
 |.attrs l=>some l
 |_=>aa
theorem AObj.list?_out{o:AObj}{l:List AV}(h:o.list?=some l):o=.list l:=by
 cases o with
 |list y=>obtain rfl:=ae h;rfl
 |_=>exact(Am rfl h).elim
theorem AObj.dict?_out{o:AObj}{l:List (Ag×AV)}(h:o.dict?=some l):o=.dict l:=by
 cases o with
 |dict y=>obtain rfl:=ae h;rfl
 |_=>exact(Am rfl h).elim
theorem AObj.inst?_out{o:AObj}{d:Addr}(h:o.inst?=some d):o=.inst d:=by
 cases o with
 |inst y=>obtain rfl:=ae h;rfl
 |_=>exact(Am rfl h).elim
theorem AObj.attrs?_out{o:AObj}{l:List (Str×AV)}(h:o.attrs?=some l):o=.attrs l:=by
 cases o with
 |attrs y=>obtain rfl:=ae h;rfl
 |_=>exact(Am rfl h).elim
noncomputable def int2?(a b:AV):Option Ag:=a.int?.bind λx=>b.int?.bind λy=>some (x,y)
noncomputable def spot?(a:AV):Option Ag:=a.tup?.bind λl=>(two? l).bind λp=>int2? p.1 p.2
theorem int2?_out{a b:AV}{k:Ag}(h:int2? a b=some k):a=.int k.1/\b=.int k.2:=by
 refine X1pp (AD h) λx Y h=>?_;refine X1pp (AD h) λy z h=>?_;obtain rfl:=ae h;exact⟨AV.int?_out Y,AV.int?_out z⟩
theorem spot?_out{a:AV}{k:Ag}(h:spot? a=some k):a=.tup [.int k.1,.int k.2]:=by
 refine X1pp (AD h) λl Y h=>?_;refine X1pp (AD h) λp z h=>?_;refine Ao (int2?_out h) λu T=>?_;rw[AV.tup?_out Y,two?_out z,u,T]
abbrev Store:=Addr->Option AObj
def Dom(V:Store)(a:Addr):Prop:=V a≠aa
noncomputable def Store.set(V:Store)(a:Addr)(o:AObj):Store:=λb=>if b=a then some o else V b
noncomputable def Store.del(V:Store)(a:Addr):Store:=λb=>if b=a then aa else V b
theorem Store.set_self(V:Store)(a:Addr)(o:AObj):(V.set a o) a=some o:=if_pos rfl
theorem Store.set_ne(V:Store){a b:Addr}(o:AObj)(h:b≠a):(V.set a o) b=V b:=if_neg h
noncomputable def Bz(k:Ag):Int:=reduceHash (Builtin.Tuple.tupleHashOf [hashInt k.1,hashInt k.2])
noncomputable abbrev By(vs:Array Value)(n:Nat):Obj:={ cls:=.type "tuple",data:=.seq vs n }
noncomputable abbrev AH(vs:Array Value)(n:Nat):Obj:={ cls:=.type "list",data:=.seq vs n }
noncomputable abbrev HG(a b c:Int)(t u v:Tok):Obj:={ cls:=.type "range",data:=.fields #[.int a t,.int b u,.int c v] }
noncomputable abbrev A5(es:Array aO)(n:Nat):Obj:={ cls:=.type "dict",data:=.dict es n }
noncomputable abbrev Dk(C:Value)(dx:Addr):Obj:={ cls:=C,dict:=some dx,data:=.plain }
abbrev B0:Nat:=29
variable {cv:Nat->Value}
mutual
inductive Rep(cv:Nat->Value)(h:Heap)(D:Addr->Prop):AV->Value->Prop
 |none:Rep cv h D .none .none
 |bool (b:Bool):Rep cv h D (.bool b) (.bool b)
 |int (i:Int)(t:Tok):Rep cv h D (.int i) (.int i t)
 |str (s:Str)(t:Tok):Rep cv h D (.str s) (.str s t)
 |tup {l:List AV}{a:Addr}{vs:List Value}{n:Nat}:h.get? a=some (By vs.toArray n)->¬D a->RepL cv h D l vs->Rep cv h D (.tup l) (.ref a)
 |list {l:List AV}{a:Addr}{vs:List Value}{n:Nat}:h.get? a=some (AH vs.toArray n)->¬D a->RepL cv h D l vs->Rep cv h D (.list l) (.ref a)
 |dict {l:List (Ag×AV)}{a:Addr}{es:List aO}{n:Nat}:h.get? a=some (A5 es.toArray n)->¬D a->(a == cL)=false->(l.map (·.1)).Nodup->RepD cv h D l es->Rep cv h D (.dict l) (.ref a)
 |inst {fs:List (Str×AV)}{a dx:Addr}{es:List aO}{n:Nat}:h.get? a=some (Dk (cv B0) dx)->(∃C,cv B0=.ref C)->h.get? dx=some (A5 es.toArray n)->¬D a->¬D dx->RepF cv h D fs es->Rep cv h D (.inst fs) (.ref a)
 |loc (a:Addr)(i:Nat):Rep cv h D (.loc a i) (.ref a)
 |exc {c:Nat}{a:Addr}{o:Obj}:h.get? a=some o->o.cls=cv c->((∃vs,o.data=.fields vs)/\o.dict=aa)->¬D a->(∃C,cv c=.ref C)->Rep cv h D (.exc c) (.ref a)
 |range {a b c:Int}{r:Addr}{t u v:Tok}:h.get? r=some (HG a b c t u v)->¬D r->Rep cv h D (.range a b c) (.ref r)
 |cls (c:Nat):Rep cv h D (.cls c) (cv c)
 |nums {l:List Int}{a:Addr}{o:Obj}{vs:List Value}{n:Nat}:h.get? a=some o->o.cls=.type "list"->o.data=.seq vs.toArray n->¬D a->(vs.length=l.length/\∀(i:Nat)(x:Int),l[i]?=some x->∃t,vs[i]?=some (.int x t))->Rep cv h D (.nums l) (.ref a)
inductive RepL(cv:Nat->Value)(h:Heap)(D:Addr->Prop):List AV->List Value->Prop
 |nil:RepL cv h D [] []
 |cons {x:AV}{v:Value}{l:List AV}{vs:List Value}:Rep cv h D x v->RepL cv h D l vs->RepL cv h D (x::l) (v::vs)
inductive RepD(cv:Nat->Value)(h:Heap)(D:Addr->Prop):List (Ag×AV)->List aO->Prop
 |nil:RepD cv h D [] []
 |cons {k:Ag}{x:AV}{l:List (Ag×AV)}{t:Addr}{tx ty:Tok}{n:Nat}{v:Value}{es:List aO} :
   h.get? t=some (By #[.int k.1 tx,.int k.2 ty] n)->¬D t->Rep cv h D x v->RepD cv h D l es->RepD cv h D ((k,x)::l) (⟨Bz k,.ref t,v⟩::es)
inductive RepF(cv:Nat->Value)(h:Heap)(D:Addr->Prop):List (Str×AV)->List aO->Prop
 |nil:RepF cv h D [] []
 |cons {n:Str}{x:AV}{l:List (Str×AV)}{hsh:Int}{t:Tok}{v:Value}{es:List aO} :
   Rep cv h D x v->RepF cv h D l es->RepF cv h D ((n,x)::l) (⟨hsh,.str n t,v⟩::es)
end
structure Ext(D:Addr->Prop)(h h':Heap):Prop where
 obj:∀b o,h.get? b=some o->¬D b->h'.get? b=some o
theorem Ext.refl(D:Addr->Prop)(h:Heap):Ext D h h:=⟨λZ Z e Z=>e⟩
theorem Ext.of_keeps{D:Addr->Prop}{h h':Heap}(k:∀b o,h.get? b=some o->h'.get? b=some o):Ext D h h':=⟨λb o e Z=>k b o e⟩
theorem Ext.of_but{D:Addr->Prop}{h h':Heap}(k:∀b o,¬D b->h.get? b=some o->h'.get? b=some o):Ext D h h':=⟨λb o e d=>k b o d e⟩
theorem Ext.trans{D D':Addr->Prop}{h h' u:Heap}(x:Ext D h h')(y:Ext D' h' u)(U:∀b,D' b->D b\/h.get? b=aa):Ext D h u :=
 ⟨λb o e d=>y.obj b o (x.obj b o e d) λY=>(U b Y).elim d λq=>Am q e⟩
def RepV(cv:Nat->Value)(h:Heap)(D:Addr->Prop)(a:AV)(v:Value):Prop:=match a with
 |.none=>v=.none
 |.bool b=>v=.bool b
 |.int i=>∃t,v=.int i t
 |.str s=>∃t,v=.str s t
 |.tup l=>∃a vs n,v=.ref a/\h.get? a=some (By (az vs) n)/\¬D a/\RepL cv h D l vs
 |.list l=>∃a vs n,v=.ref a/\h.get? a=some (AH (az vs) n)/\¬D a/\RepL cv h D l vs
 |.dict l=>∃a es n,v=.ref a/\h.get? a=some (A5 (az es) n)/\¬D a/\(a == cL)=false/\(l.map (·.1)).Nodup/\RepD cv h D l es
 |.inst fs=>∃a dx es n,v=.ref a/\h.get? a=some (Dk (cv B0) dx)/\(∃C,cv B0=.ref C)/\h.get? dx=some (A5 (az es) n)/\¬D a/\¬D dx/\RepF cv h D fs es
 |.loc a _=>v=.ref a
 |.exc c=>∃a o,v=.ref a/\h.get? a=some o/\o.cls=cv c/\((∃vs,o.data=.fields vs)/\o.dict=aa)/\¬D a/\(∃C,cv c=.ref C)
 |.range a b c=>∃r t u w,v=.ref r/\h.get? r=some (HG a b c t u w)/\¬D r
 |.cls c=>v=cv c
 |.nums l=>∃a o vs n,v=.ref a/\h.get? a=some o/\o.cls=.type "list"/\o.data=.seq (az vs) n/\¬D a/\(vs.length=l.length/\∀(i:Nat)(x:Int),l[i]?=some x->∃t,vs[i]?=some (.int x t))
theorem Rep.inv{h:Heap}{D:Addr->Prop}{a:AV}{v:Value}(r:Rep cv h D a v):RepV cv h D a v:=by
 induction r using Rep.casesOn with|none=>rfl|bool b=>rfl|int i t=>exact⟨t,rfl⟩|str s t=>exact⟨t,rfl⟩|tup a b c=>exact⟨_,_,_,rfl,a,b,c⟩|list a b c=>exact⟨_,_,_,rfl,a,b,c⟩|dict a b c d e=>exact⟨_,_,_,rfl,a,b,c,d,e⟩|inst a b c d e f=>exact⟨_,_,_,_,rfl,a,b,c,d,e,f⟩|loc a i=>rfl|exc a b c d e=>exact⟨_,_,rfl,a,b,c,d,e⟩|range a b=>exact⟨_,_,_,_,rfl,a,b⟩|cls c=>rfl|nums a b c d e=>exact⟨_,_,_,_,rfl,a,b,c,d,e⟩
def RepLV(cv:Nat->Value)(h:Heap)(D:Addr->Prop)(l:List AV)(vs:List Value):Prop:=match l with
 |[]=>vs=[]
 |x::l=>∃v r,vs=v::r/\Rep cv h D x v/\RepL cv h D l r
theorem RepL.inv{h:Heap}{D:Addr->Prop}{l:List AV}{vs:List Value}(r:RepL cv h D l vs):RepLV cv h D l vs:=by
 induction r using RepL.casesOn with|nil=>rfl|cons a b=>exact⟨_,_,rfl,a,b⟩
def RepDV(cv:Nat->Value)(h:Heap)(D:Addr->Prop)(l:List (Ag×AV))(es:List aO):Prop:=match l with
 |[]=>es=[]
 |p::l=>∃t tx ty n v r,es=⟨Bz p.1,.ref t,v⟩::r/\h.get? t=some (By #[.int p.1.1 tx,.int p.1.2 ty] n)/\¬D t/\Rep cv h D p.2 v/\RepD cv h D l r
theorem RepD.inv{h:Heap}{D:Addr->Prop}{l:List (Ag×AV)}{es:List aO}(r:RepD cv h D l es):RepDV cv h D l es:=by
 induction r using RepD.casesOn with|nil=>rfl|cons a b c d=>exact⟨_,_,_,_,_,_,rfl,a,b,c,d⟩
def RepFV(cv:Nat->Value)(h:Heap)(D:Addr->Prop)(l:List (Str×AV))(es:List aO):Prop:=match l with
 |[]=>es=[]
 |p::l=>∃hsh t v r,es=⟨hsh,.str p.1 t,v⟩::r/\Rep cv h D p.2 v/\RepF cv h D l r
theorem RepF.inv{h:Heap}{D:Addr->Prop}{l:List (Str×AV)}{es:List aO}(r:RepF cv h D l es):RepFV cv h D l es:=by
 induction r using RepF.casesOn with|nil=>rfl|cons a b=>exact⟨_,_,_,_,rfl,a,b⟩
def Df(o:Obj):Prop:=(∃T,o.cls=.type T/\T ≠ "frame"/\T ≠ "range")/\∃vs,o.data=.fields vs
theorem CJ{o:Obj}(y:∀vs,o.data≠.fields vs):¬Df o:=λq=>q.2.elim y
theorem Ce{vs:Array Value}{n:Nat}:¬Df (By vs n):=CJ λZ h=>by exact nDf rfl h
theorem H2{vs:Array Value}{n:Nat}:¬Df (AH vs n):=CJ λZ h=>by exact nDf rfl h
theorem DE{vs:Array aO}{n:Nat}:¬Df (A5 vs n):=CJ λZ h=>by exact nDf rfl h
theorem H3{C:Value}{dx:Addr}:¬Df (Dk C dx):=CJ λZ h=>by exact nDf rfl h
theorem HY{a b c:Int}{t u v:Tok}:¬Df (HG a b c t u v):=λq=>by
 obtain⟨⟨T,z,_,O⟩,_⟩:=q;exact O (Value.type.inj z).symm
theorem H4{o:Obj}{v:Value}(c:o.cls=v)(n:∃C,v=.ref C):¬Df o:=λq=>by
 obtain⟨⟨T,z,_⟩,_⟩:=q;refine X1p n λC B=>?_;rw[z,B]at c;cases c
theorem HZ{o:Obj}{vs:Array Value}{n:Nat}(f:o.data=.seq vs n):¬Df o:=CJ λZ h=>by rw[f]at h;exact nDf rfl h
section
variable {D D':Addr->Prop}{h h':Heap}(k:∀b o,h.get? b=some o->¬Df o->¬D b->h'.get? b=some o/\¬D' b)
include k
theorem Rep.turn{av:AV}{v:Value}(r:Rep cv h D av v):Rep cv h' D' av v :=
 Rep.rec (motive_1:=λa v Z=>Rep cv h' D' a v) (motive_2:=λl vs Z=>RepL cv h' D' l vs) (motive_3:=λl es Z=>RepD cv h' D' l es) (motive_4:=λl es Z=>RepF cv h' D' l es)
  .none .bool .int .str (λe d Z r=>.tup (k _ _ e Ce d).1 (k _ _ e Ce d).2 r) (λe d Z r=>.list (k _ _ e H2 d).1 (k _ _ e H2 d).2 r) (λe d u n Z r=>.dict (k _ _ e DE d).1 (k _ _ e DE d).2 u n r)
  (λe nf f d U Z r=>.inst (k _ _ e H3 d).1 nf (k _ _ f DE U).1 (k _ _ e H3 d).2 (k _ _ f DE U).2 r) .loc (λe c f d n=>.exc (k _ _ e (H4 c n) d).1 c f (k _ _ e (H4 c n) d).2 n)
  (λe d=>.range (k _ _ e HY d).1 (k _ _ e HY d).2) .cls (λe c f d r=>.nums (k _ _ e (HZ f) d).1 c f (k _ _ e (HZ f) d).2 r)
  .nil (λZ Z r rs=>.cons r rs) .nil (λe d Z Z r rs=>.cons (k _ _ e Ce d).1 (k _ _ e Ce d).2 r rs) .nil (λZ Z r rs=>.cons r rs) r
theorem RepL.turn{av:List AV}{v:List Value}(r:RepL cv h D av v):RepL cv h' D' av v:=by
 induction av generalizing v with|nil=>rw[show v=[] from r.inv];exact .nil|cons x l y=>refine X2ppp r.inv λu z e a b=>?_;rw[e];exact .cons (a.turn k) (y b)
theorem RepD.turn{av:List (Ag×AV)}{v:List aO}(r:RepD cv h D av v):RepD cv h' D' av v:=by
 induction av generalizing v with|nil=>rw[show v=[] from r.inv];exact .nil|cons x l y=>refine X6ppppp r.inv λt B T n u z e a b c d=>?_;rw[e];exact .cons (k _ _ a Ce b).1 (k _ _ a Ce b).2 (c.turn k) (y d)
theorem RepF.turn{av:List (Str×AV)}{v:List aO}(r:RepF cv h D av v):RepF cv h' D' av v:=by
 induction av generalizing v with|nil=>rw[show v=[] from r.inv];exact .nil|cons x l y=>refine X4ppp r.inv λt u z d e a b=>?_;rw[e];exact .cons (a.turn k) (y b)
end
theorem Ext.turn{D D':Addr->Prop}{h h':Heap}(x:Ext D h h')(U:∀b,D' b->D b\/h.get? b=aa)(b:Addr)(o:Obj)(e:h.get? b=some o)(Z:¬Df o)(d:¬D b):h'.get? b=some o/\¬D' b :=
 ⟨x.obj b o e d,λq=>(U b q).elim d λq=>Am q e⟩
theorem Rep.ext{D D':Addr->Prop}{h h':Heap}(x:Ext D h h')(U:∀b,D' b->D b\/h.get? b=aa){av:AV}{v:Value}(r:Rep cv h D av v):Rep cv h' D' av v:=r.turn (x.turn U)
theorem RepL.ext{D D':Addr->Prop}{h h':Heap}(x:Ext D h h')(U:∀b,D' b->D b\/h.get? b=aa){av:List AV}{v:List Value}(r:RepL cv h D av v):RepL cv h' D' av v:=r.turn (x.turn U)
theorem RepD.ext{D D':Addr->Prop}{h h':Heap}(x:Ext D h h')(U:∀b,D' b->D b\/h.get? b=aa){av:List (Ag×AV)}{v:List aO}(r:RepD cv h D av v):RepD cv h' D' av v:=r.turn (x.turn U)
theorem RepF.ext{D D':Addr->Prop}{h h':Heap}(x:Ext D h h')(U:∀b,D' b->D b\/h.get? b=aa){av:List (Str×AV)}{v:List aO}(r:RepF cv h D av v):RepF cv h' D' av v:=r.turn (x.turn U)
inductive RepO(cv:Nat->Value)(h:Heap)(D:Addr->Prop):AObj->Addr->Prop
 |list {l:List AV}{a:Addr}{vs:List Value}{n:Nat}:h.get? a=some (AH vs.toArray n)->RepL cv h D l vs->RepO cv h D (.list l) a
 |dict {l:List (Ag×AV)}{a:Addr}{es:List aO}{n:Nat}:h.get? a=some (A5 es.toArray n)->(a == cL)=false->(l.map (·.1)).Nodup->RepD cv h D l es->RepO cv h D (.dict l) a
 |inst {dx a:Addr}:h.get? a=some (Dk (cv B0) dx)->(∃C,cv B0=.ref C)->RepO cv h D (.inst dx) a
 |attrs {fs:List (Str×AV)}{a:Addr}{es:List aO}{n:Nat}:h.get? a=some (A5 es.toArray n)->RepF cv h D fs es->RepO cv h D (.attrs fs) a
def RepOV(cv:Nat->Value)(h:Heap)(D:Addr->Prop)(o:AObj)(a:Addr):Prop:=match o with
 |.list l=>∃vs n,h.get? a=some (AH (az vs) n)/\RepL cv h D l vs
 |.dict l=>∃es n,h.get? a=some (A5 (az es) n)/\(a == cL)=false/\(l.map (·.1)).Nodup/\RepD cv h D l es
 |.inst dx=>h.get? a=some (Dk (cv B0) dx)/\(∃C,cv B0=.ref C)
 |.attrs fs=>∃es n,h.get? a=some (A5 (az es) n)/\RepF cv h D fs es
theorem RepO.inv{h:Heap}{D:Addr->Prop}{o:AObj}{a:Addr}(r:RepO cv h D o a):RepOV cv h D o a:=by
 induction r with|list a b=>exact⟨_,_,a,b⟩|dict a b c d=>exact⟨_,_,a,b,c,d⟩|inst a b=>exact⟨a,b⟩|attrs a b=>exact⟨_,_,a,b⟩
theorem RepO.there{h:Heap}{D:Addr->Prop}{o:AObj}{a:Addr}(r:RepO cv h D o a):∃ob,h.get? a=some ob/\ob.cls≠.type "frame":=by
 induction r with|list e _=>exact⟨_,e,by show Value.type "list"≠.type "frame";decide⟩|dict e _ _ _=>exact⟨_,e,by show Value.type "dict"≠.type "frame";decide⟩|inst e nf=>exact⟨_,e,by refine X1p nf λC q=>?_;show cv B0≠_;rw[q];exact nofun⟩|attrs e _=>exact⟨_,e,by show Value.type "dict"≠.type "frame";decide⟩
structure Sta where
 prog:dz
 w:World
 cv:Nat->Value
 g:Heap
 K:W.Frag
 X:K.In g
 gens:Array GenState
 drawn:Drawn
 os:OsState
 mg:Str->Option Value
 mb:Str->Option Value
 ng:g.Ns bZ mg
 nb:g.Ns builtinsNs mb
 lim:g.NoLimit
 sm:∃o,g.get? cL=some o
 hx:Option Addr
 hxo:∀x,hx=some x->∃o vs,g.get? x=some o/\o.data=.fields vs/\vs[2]?=some bo
theorem Ext.mono{D D':Addr->Prop}{h h':Heap}(x:Ext D h h')(k:∀a,D a->D' a):Ext D' h h':=⟨λb o e d=>x.obj b o e λq=>d (k b q)⟩
def DN(N:Addr->Prop)(V:Store)(a:Addr):Prop:=Dom V a\/N a
def Own(env:Env)(a:Addr):Prop:=a=env.locals\/∃x,env.cells.lookup x=some a
abbrev LocAt(cv:Nat->Value)(h:Heap)(D:Addr->Prop)(mc cm:Str->Option Value)(cells:List (Str×Addr))(k:Option cG)(x:Str)(av:AV):Prop:=match k with
 |some .local=>∃v,mc x=some v/\Rep cv h D av v
 |some .cell|some .free=>∃v c,cells.lookup x=some c/\cm x=some v/\Rep cv h D av v
 |_=>True
theorem LocAt.map{h h':Heap}{D D':Addr->Prop}{T u Y z:Str->Option Value}{cells:List (Str×Addr)}{k:Option cG}{x:Str}{av:AV}(l:LocAt cv h D T u cells k x av)(r:∀{v},Rep cv h D av v->Rep cv h' D' av v)(y:∀v,T x=some v->Y x=some v)(U:∀v,u x=some v->z x=some v):LocAt cv h' D' Y z cells k x av:=by
 cases k with
 |none=>exact trivial
 |some k =>
  cases k with|«local»=>refine X1pp l λv a b=>?_;exact⟨v,y v a,r b⟩|cell=>refine X2ppp l λv c a b d=>?_;exact⟨v,c,a,U v b,r d⟩|free=>refine X2ppp l λv c a b d=>?_;exact⟨v,c,a,U v b,r d⟩|_=>exact trivial
inductive Loc(cv:Nat->Value)(g:Heap)(tb:List Nat)(env:Env)(m:Nat->Option AV)(N:Addr->Prop)(V:Store)(h:Heap):Prop
 |mk (mc cm:Str->Option Value) (ns:h.Ns env.locals mc) (cell:∀x c,env.cells.lookup x=some c->h.IsCell c (cm x)) (own:∀a,Own env a->¬Dom V a/\g.get? a=aa)
  (apart:∀x y c,env.cells.lookup x=some c->env.cells.lookup y=some c->x=y) (cl:∀x c,env.cells.lookup x=some c->c≠env.locals)
  (names:∀x i av,ixS tb x=some i->m i=some av->LocAt cv h (DN N V) mc cm env.cells (env.kindOf x) x av):Loc cv g tb env m N V h
structure Step(P O:Addr->Prop)(V:Store)(s:af)(V':Store)(s':af):Prop where
 ext:Ext (λa=>Dom V a\/O a\/P a) s.heap s'.heap
 frm:∀b o,s.heap.get? b=some o->P b->¬O b->¬Dom V b->∃o',s'.heap.get? b=some o'/\o'.cls=o.cls/\o'.data=o.data/\o'.dict=o.dict
 dom:∀b,Dom V' b->Dom V b\/s.heap.get? b=aa
 there:∀b o,s.heap.get? b=some o->∃o',s'.heap.get? b=some o'
abbrev noO:Addr->Prop:=λZ=>False
theorem Step.there'{P O:Addr->Prop}{V V':Store}{s s':af}(x:Step P O V s V' s'){b:Addr}{o:Obj}(e:s.heap.get? b=some o)(d:¬Dom V b)(U:¬O b):∃o',s'.heap.get? b=some o'/\o'.cls=o.cls/\o'.data=o.data/\o'.dict=o.dict:=by
 by_cases f:P b
 .exact x.frm b o e f U d
 .exact⟨o,x.ext.obj b o e λq=>q.elim d λq=>q.elim U f,rfl,rfl,rfl⟩
theorem Step.of_keeps{P O:Addr->Prop}{V V':Store}{s s':af}(k:∀b o,s.heap.get? b=some o->s'.heap.get? b=some o)(d:∀b,Dom V' b->Dom V b\/s.heap.get? b=aa):Step P O V s V' s' :=
 ⟨Ext.of_keeps k,λb o e Z Z Z=>⟨o,k b o e,rfl,rfl,rfl⟩,d,λb o e=>⟨o,k b o e⟩⟩
theorem Step.of_but{P O:Addr->Prop}{V V':Store}{s s':af}(k:∀b o,¬Dom V b->¬O b->s.heap.get? b=some o->s'.heap.get? b=some o)(d:∀b,Dom V' b->Dom V b\/s.heap.get? b=aa)
  (t:∀b o,s.heap.get? b=some o->∃o',s'.heap.get? b=some o'):Step P O V s V' s' :=
 ⟨Ext.of_but λb o q e=>k b o (λz=>q (.inl z)) (λz=>q (.inr (.inl z))) e,λb o e Z n dd=>⟨o,k b o dd n e,rfl,rfl,rfl⟩,d,t⟩
theorem Step.over{P O:Addr->Prop}{AC V:Store}{Ak s s':af}(z:Step P O AC Ak V s)(k:∀a,(∃o,Ak.heap.get? a=some o)->∀o,s.heap.get? a=some o->s'.heap.get? a=some o):Step P O AC Ak V s' :=
 ⟨⟨λa o e d=>k a ⟨o,e⟩ o (z.ext.obj a o e d)⟩,λa o e d f g=>by
  refine X1pp (z.frm a o e d f g) λu y r=>?_;exact⟨u,k a ⟨o,e⟩ u y,r⟩,z.dom,λa o e=>by
  refine X1p (z.there a o e) λu y=>?_;exact⟨u,k a ⟨o,e⟩ u y⟩⟩
theorem Step.refl(P O:Addr->Prop)(V:Store)(s:af):Step P O V s V s:=Step.of_keeps (λZ Z e=>e) λZ h=>.inl h
theorem Step.toks(P O:Addr->Prop)(V:Store)(s:af)(t:Nat):Step P O V s V { s with toks:=t }:=Step.of_keeps (λZ Z e=>e) λZ h=>.inl h
theorem Step.new{P O:Addr->Prop}{V Aa:Store}{s Ac:af}(x:Step P O V s Aa Ac){b:Addr}(e:Ac.heap.get? b=aa):s.heap.get? b=aa:=by
 cases q:s.heap.get? b with|none=>rfl|some o=>refine X1p (x.there b o q) λu y=>?_;rw[e]at y;exact nS y
theorem Step.ndom{P O:Addr->Prop}{V Aa:Store}{s Ac:af}(x:Step P O V s Aa Ac){b:Addr}{o:Obj}(e:s.heap.get? b=some o)(d:¬Dom V b):¬Dom Aa b:=λq=>(x.dom b q).elim d λz=>Am z e
theorem Step.trans{P O:Addr->Prop}{V Aa Ab:Store}{s Ac Aj:af}(x:Step P O V s Aa Ac)(y:Step P O Aa Ac Ab Aj):Step P O V s Ab Aj :=
 ⟨x.ext.trans y.ext λb h=>h.elim (λh=>(x.dom b h).imp .inl id) λh=>.inl (.inr h),λb o e n ho d=>by
   refine X1pppp (x.frm b o e n ho d) λu z c' d' i'=>?_;refine X1pppp (y.frm b u z n ho (x.ndom e d)) λT U c'' B Y=>?_;exact⟨T,U,c''.trans c',B.trans d',Y.trans i'⟩,
  λb h=>(y.dom b h).elim (x.dom b) λq=>.inr (x.new q),
  λb o e=>by refine X1p (x.there b o e) λu z=>?_;exact y.there b u z⟩
theorem Step.mono{P O Y:Addr->Prop}{V Aa:Store}{s Ac:af}(x:Step P O V s Aa Ac)(k:∀a,O a->Y a):Step P Y V s Aa Ac :=
 ⟨x.ext.mono λa h=>h.imp id λh=>h.imp (k a) id,λb o e n U d=>x.frm b o e n (λq=>U (k b q)) d,x.dom,x.there⟩
theorem Step.wide{P u O:Addr->Prop}{V Aa:Store}{s Ac:af}(x:Step P O V s Aa Ac)(k:∀a,P a->u a):Step u O V s Aa Ac :=
 ⟨x.ext.mono λa h=>h.imp id λh=>h.imp id (k a),λb o e Z U d=>x.there' e d U,x.dom,x.there⟩
theorem Step.narrow{P u O:Addr->Prop}{V Aa:Store}{s Ac:af}(x:Step u O V s Aa Ac)(k:∀a,u a->P a\/s.heap.get? a=aa):Step P O V s Aa Ac :=
 ⟨⟨λb o e d=>x.ext.obj b o e λq=>q.elim (λq=>d (.inl q)) λq=>q.elim (λq=>d (.inr (.inl q))) λq=>(k b q).elim (λq=>d (.inr (.inr q))) λq=>Am q e⟩,λb o e Z U d=>x.there' e d U,x.dom,x.there⟩
theorem Step.out{P O:Addr->Prop}{V Aa Ab:Store}{s Ac Aj:af}(x:Step P noO V s Aa Ac)(y:Step P O Aa Ac Ab Aj)(hO:∀a,O a->s.heap.get? a=aa):Step P noO V s Ab Aj :=
 ⟨x.ext.trans y.ext λb h=>h.elim (λh=>(x.dom b h).imp .inl id) λh=>h.elim (λh=>.inr (hO b h)) λh=>.inl (.inr (.inr h)),λb o e n Z d=>by
   refine X1pppp (x.frm b o e n id d) λo' B c' d' i'=>?_;obtain⟨T,U,z,u,Y⟩:=y.there' B (x.ndom e d) λq=>by rw[hO b q]at e;exact nS e
   exact⟨T,U,z.trans c',u.trans d',Y.trans i'⟩,
  λb h=>(y.dom b h).elim (x.dom b) λq=>.inr (x.new q),
  λb o e=>by refine X1p (x.there b o e) λo' B=>?_;exact y.there b o' B⟩
theorem Rep.step{P O N:Addr->Prop}{V V':Store}{s s':af}(x:Step P O V s V' s')(y:∀a,O a->N a)(d:∀a,P a->N a){av:AV}{v:Value}(r:Rep cv s.heap (DN N V) av v):Rep cv s'.heap (DN N V') av v :=
 r.ext (x.ext.mono λa h=>h.imp id λh=>h.elim (y a) (d a)) λb h=>h.elim (λh=>(x.dom b h).imp .inl id) λh=>.inl (.inr h)
theorem RepL.step{P O N:Addr->Prop}{V V':Store}{s s':af}(x:Step P O V s V' s')(y:∀a,O a->N a)(d:∀a,P a->N a){av:List AV}{v:List Value}(r:RepL cv s.heap (DN N V) av v):RepL cv s'.heap (DN N V') av v :=
 r.ext (x.ext.mono λa h=>h.imp id λh=>h.elim (y a) (d a)) λb h=>h.elim (λh=>(x.dom b h).imp .inl id) λh=>.inl (.inr h)
theorem RepD.step{P O N:Addr->Prop}{V V':Store}{s s':af}(x:Step P O V s V' s')(y:∀a,O a->N a)(d:∀a,P a->N a){av:List (Ag×AV)}{v:List aO}(r:RepD cv s.heap (DN N V) av v):RepD cv s'.heap (DN N V') av v :=
 r.ext (x.ext.mono λa h=>h.imp id λh=>h.elim (y a) (d a)) λb h=>h.elim (λh=>(x.dom b h).imp .inl id) λh=>.inl (.inr h)
theorem Rep.less{D D':Addr->Prop}{h:Heap}{av:AV}{v:Value}(r:Rep cv h D av v)(k:∀a,D' a->D a):Rep cv h D' av v:=r.ext (Ext.refl _ _) λb h=>.inl (k b h)
theorem RepL.less{D D':Addr->Prop}{h:Heap}{av:List AV}{v:List Value}(r:RepL cv h D av v)(k:∀a,D' a->D a):RepL cv h D' av v:=r.ext (Ext.refl _ _) λb h=>.inl (k b h)
structure Inv(S:Sta)(N:Addr->Prop)(V:Store)(s:af):Prop where
 keep:∀b o,S.g.get? b=some o->s.heap.get? b=some o
 gens:s.gens=S.gens
 drawn:s.drawn=S.drawn
 os:s.os=S.os
 σg:∀a,Dom V a->S.g.get? a=aa
 σN:∀a,Dom V a->¬N a
 Nin:∀a,N a->∃o,s.heap.get? a=some o/\∀vs,o.data≠.fields vs
 rep:∀a o,V a=some o->RepO S.cv s.heap (DN N V) o a
structure St(S:Sta)(tb:List Nat)(env:Env)(N P:Addr->Prop)(b:Store×af)(m:Nat->Option AV)(V:Store)(s:af):Prop where
 inv:Inv S N V s
 loc:Loc S.cv S.g tb env m N V s.heap
 frm:Step P noO b.1 b.2 V s
 pN:∀a,P a->N a
 new:∀a,Own env a->b.2.heap.get? a=aa
 own:∀a,Own env a->N a
 gb:∀a,b.2.heap.get? a=aa->S.g.get? a=aa
end
section
noncomputable section
abbrev Nms:=List (Str×cG)
structure IsV(tb:List Nat)(sc:Nms)(x:Str)(i:Nat):Prop where
 ok:okName x=true
 kind:sc.lookup x=some .local\/sc.lookup x=some .cell\/sc.lookup x=some .free
 ix:ixS tb x=some i
structure IsG(sc:Nms)(x:Str)(i:Nat):Prop where
 ok:okName x=true
 kind:sc.lookup x=some .globalImplicit
 ix:ixS GT x=some i
def CO(C:aj->Prop)(pe:Option aj)(e:E):Prop:=(pe=aa/\e=.none)\/∃x,pe=some x/\C x
mutual
noncomputable def E.st:E->E
 |.tup es=>.tup (E.stL es)
 |.list es=>.list (E.stL es)
 |.dict ks vs=>.dict (E.stL ks) (E.stL vs)
 |.bin op l r=>.bin op l.st r.st
 |.neg x=>.neg x.st
 |.not x=>.not x.st
 |.and es=>.and (E.stL es)
 |.or es=>.or (E.stL es)
 |.cmp op l r=>.cmp op l.st r.st
 |.cmp2 o1 o2 a b c=>.cmp2 o1 o2 a.st b.st c.st
 |.ite c a b=>.ite c.st a.st b.st
 |.sub o i=>.sub o.st i.st
 |.slice o lo hi st=>.slice o.st lo hi st
 |.call f args=>.call f (E.stL args)
 |.sorted x f=>.sorted x.st f.st
 |.meth o n args=>.meth o.st n (E.stL args)
 |.comp elt x src cs=>.comp elt.st x src.st (E.stL cs)
 |.mu _ e=>e.st
 |e=>e
noncomputable def E.stL:List E->List E
 |[]=>[]
 |e::r=>e.st::E.stL r
end
mutual
noncomputable def stS:Internal.S->Internal.S
 |.assign p e=>.assign p e.st
 |.setattr o n e=>.setattr o.st n e.st
 |.setitem o i e=>.setitem o.st i.st e.st
 |.expr e=>.expr e.st
 |.ret e=>.ret e.st
 |.ite c a b=>.ite c.st (GI a) (GI b)
 |.for_ p e body=>.for_ p e.st (GI body)
 |.while_ c body=>.while_ c.st (GI body)
 |.raise e=>.raise e.st
 |.try_ b c x h=>.try_ (GI b) c.st x (GI h)
 |.pass=>.pass
noncomputable def GI:List Internal.S->List Internal.S
 |[]=>[]
 |s::r=>stS s::GI r
end
noncomputable def Bj:aj->Nat
 |.ListComp ..=>1
 |.SetComp ..=>1
 |.DictComp ..=>1
 |.Tuple ..=>2
 |.UnaryOp op _ _=>(match op with
  |.Not=>3
  |_=>0)
 |.BoolOp ..=>3
 |.Compare ..=>3
 |.IfExp ..=>3
 |_=>0
noncomputable def kd:E->Nat
 |.comp ..=>1
 |.tup ..=>2
 |.not ..=>3
 |.and ..=>3
 |.or ..=>3
 |.cmp ..=>3
 |.cmp2 ..=>3
 |.ite ..=>3
 |.mu _ e=>kd e
 |_=>0
mutual
def CEb(tb:List Nat):Nms->aj->E->Prop
 |sc,pe,.none=>∃k p,pe=.Constant .none k p
 |sc,pe,.bool b=>∃k p,pe=.Constant (.bool b) k p
 |sc,pe,.int i=>∃k p,pe=.Constant (.int i) k p
 |sc,pe,.str s=>∃k p,pe=.Constant (.str s) k p
 |sc,pe,.v i=>∃x p,pe=.Name x p/\IsV tb sc x i
 |sc,pe,.g i=>∃x p,pe=.Name x p/\IsG sc x i
 |sc,pe,.tup es'=>∃es k p,pe=.Tuple es k p/\CEbs tb sc es es'
 |sc,pe,.list es'=>∃es p,pe=.List es p/\CEbs tb sc es es'
 |sc,pe,.dict ks' vs'=>∃ks vs p,pe=.Dict ks vs p/\CKbs tb sc ks ks'/\CEbs tb sc vs vs'
 |sc,pe,.bin op l' r'=>∃l r p,pe=.BinOp l op r p/\(Bj l=kd l'/\CEb tb sc l l')/\(Bj r=kd r'/\CEb tb sc r r')
 |sc,pe,.neg x'=>∃x p,pe=.UnaryOp .USub x p/\(Bj x=kd x'/\CEb tb sc x x')
 |sc,pe,.not x'=>∃x p,pe=.UnaryOp .Not x p/\(Bj x=kd x'/\CEb tb sc x x')
 |sc,pe,.and es'=>∃es p,pe=.BoolOp .And es p/\CEbs tb sc es es'
 |sc,pe,.or es'=>∃es p,pe=.BoolOp .Or es p/\CEbs tb sc es es'
 |sc,pe,.cmp op l' r'=>∃l r p,pe=.Compare l [op] [r] p/\Bd r=true/\(Bj l=kd l'/\CEb tb sc l l')/\(Bj r=kd r'/\CEb tb sc r r')
 |sc,pe,.cmp2 o1 o2 a' b' c'=>∃a b c p,pe=.Compare a [o1,o2] [b,c] p/\Bd b=true/\Bd c=true/\(Bj a=kd a'/\CEb tb sc a a')/\(Bj b=kd b'/\CEb tb sc b b')/\(Bj c=kd c'/\CEb tb sc c c')
 |sc,pe,.ite c' a' b'=>∃c a b p,pe=.IfExp c a b p/\(Bj c=kd c'/\CEb tb sc c c')/\(Bj a=kd a'/\CEb tb sc a a')/\(Bj b=kd b'/\CEb tb sc b b')
 |sc,pe,.slice o' lo' hi' st'=>∃o lo hi st p q,pe=.Subscript o (.Slice lo hi st q) p/\(Bj o=kd o'/\CEb tb sc o o')/\CO (λx=>(Bj x=kd lo'/\CEb tb sc x lo')) lo lo'/\CO (λx=>(Bj x=kd hi'/\CEb tb sc x hi')) hi hi'/\CO (λx=>(Bj x=kd st'/\CEb tb sc x st')) st st'
 |sc,pe,.sub o' i'=>∃o i p,pe=.Subscript o i p/\BM i=true/\(Bj o=kd o'/\CEb tb sc o o')/\(Bj i=kd i'/\CEb tb sc i i')
 |sc,pe,.attr (.v i) k=>∃x q a p,pe=.Attribute (.Name x q) a p/\IsV tb sc x i/\ixS AT a=some k
 |sc,pe,.attr _ _=>False
 |sc,pe,.meth o' k args'=>∃o a ap args p,pe=.Call (.Attribute o a ap) args [] p/\Dz o=true/\ap.endLine=p.line/\args.length<29/\(Bj o=kd o'/\CEb tb sc o o')/\ixS AT a=some k/\CEbs tb sc args args'
 |sc,pe,.call (.g i) args'=>∃x q args p,pe=.Call (.Name x q) args [] p/\args.length<29/\IsG sc x i/\CEbs tb sc args args'
 |sc,pe,.call _ _=>False
 |sc,pe,.sorted a' f'=>∃a f kp p q,∃x key:Str,pe=.Call (.Name x q) [a] [⟨some key,f,kp⟩] p/\x = "sorted"/\key = "key"/\sc.lookup x=some .globalImplicit/\Bc a=true/\(Bj a=kd a'/\CEb tb sc a a')/\(Bj f=kd f'/\CEb tb sc f f')
 |sc,pe,.comp elt' i src' cs'=>∃elt x xp src cs scope p,pe=.ListComp elt [⟨.Name x xp,src,cs,0⟩] scope p/\scope.kind=.function/\(scope.names.lookup x=some .local\/scope.names.lookup x=some .cell)/\Bd src=true /\
   okName x=true/\(∀q∈scope.names,DL tb sc x q=true/\scope.names.lookup q.1=some q.2)/\(Bj src=kd src'/\CEb tb sc src src')/\ixS tb x=some i/\CEbs tb (relab sc scope.names) cs cs'/\(Bj elt=kd elt'/\CEb tb (relab sc scope.names) elt elt')
 |_,_,.mu _ _=>False
def CEbs(tb:List Nat):Nms->List aj->List E->Prop
 |_,pe,[]=>pe=[]
 |sc,pe,e'::r'=>∃e r,pe=e::r/\Bc e=true/\(Bj e=kd e'/\CEb tb sc e e')/\CEbs tb sc r r'
def CKbs(tb:List Nat):Nms->List (Option aj)->List E->Prop
 |_,pe,[]=>pe=[]
 |sc,pe,e'::r'=>∃e r,pe=some e::r/\(Bj e=kd e'/\CEb tb sc e e')/\CKbs tb sc r r'
end
def CEU(tb:List Nat)(sc:Nms)(pe:aj)(e:E):Prop:=Bj pe=kd e/\CEb tb sc pe e
theorem CEU.none{tb:List Nat}{sc k p} :CEU tb sc (.Constant .none k p) .none:=⟨rfl,_,_,rfl⟩
theorem CEU.bool{tb:List Nat}{sc b k p} :CEU tb sc (.Constant (.bool b) k p) (.bool b):=⟨rfl,_,_,rfl⟩
theorem CEU.int{tb:List Nat}{sc i k p} :CEU tb sc (.Constant (.int i) k p) (.int i):=⟨rfl,_,_,rfl⟩
theorem CEU.str{tb:List Nat}{sc s k p} :CEU tb sc (.Constant (.str s) k p) (.str s):=⟨rfl,_,_,rfl⟩
theorem CEU.v{tb:List Nat}{sc x p i}(u:IsV tb sc x i):CEU tb sc (.Name x p) (.v i):=⟨rfl,_,_,rfl,u⟩
theorem CEU.g{tb:List Nat}{sc x p i}(u:IsG sc x i):CEU tb sc (.Name x p) (.g i):=⟨rfl,_,_,rfl,u⟩
theorem CEU.tup{tb:List Nat}{sc es es' k p}(u:CEbs tb sc es es'):CEU tb sc (.Tuple es k p) (.tup es'):=⟨rfl,_,_,_,rfl,u⟩
theorem CEU.list{tb:List Nat}{sc es es' p}(u:CEbs tb sc es es'):CEU tb sc (.List es p) (.list es'):=⟨rfl,_,_,rfl,u⟩
theorem CEU.dict{tb:List Nat}{sc ks ks' vs vs' p}(u:CKbs tb sc ks ks')(y:CEbs tb sc vs vs'):CEU tb sc (.Dict ks vs p) (.dict ks' vs'):=⟨rfl,_,_,_,rfl,u,y⟩
theorem CEU.bin{tb:List Nat}{sc l l' op r r' p}(u:CEU tb sc l l')(y:CEU tb sc r r'):CEU tb sc (.BinOp l op r p) (.bin op l' r'):=⟨rfl,_,_,_,rfl,u,y⟩
theorem CEU.neg{tb:List Nat}{sc x x' p}(u:CEU tb sc x x'):CEU tb sc (.UnaryOp .USub x p) (.neg x'):=⟨rfl,_,_,rfl,u⟩
theorem CEU.not{tb:List Nat}{sc x x' p}(u:CEU tb sc x x'):CEU tb sc (.UnaryOp .Not x p) (.not x'):=⟨rfl,_,_,rfl,u⟩
theorem CEU.and{tb:List Nat}{sc es es' p}(u:CEbs tb sc es es'):CEU tb sc (.BoolOp .And es p) (.and es'):=⟨rfl,_,_,rfl,u⟩
theorem CEU.or{tb:List Nat}{sc es es' p}(u:CEbs tb sc es es'):CEU tb sc (.BoolOp .Or es p) (.or es'):=⟨rfl,_,_,rfl,u⟩
theorem CEU.cmp{tb:List Nat}{sc l l' op r r' p}(u:Bd r=true)(y:CEU tb sc l l')(z:CEU tb sc r r'):CEU tb sc (.Compare l [op] [r] p) (.cmp op l' r'):=⟨rfl,_,_,_,rfl,u,y,z⟩
theorem CEU.cmp2{tb:List Nat}{sc a a' o1 o2 b b' c c' p}(u:Bd b=true)(y:Bd c=true)(z:CEU tb sc a a')(B:CEU tb sc b b')(a4:CEU tb sc c c'):CEU tb sc (.Compare a [o1,o2] [b,c] p) (.cmp2 o1 o2 a' b' c'):=⟨rfl,_,_,_,_,rfl,u,y,z,B,a4⟩
theorem CEU.ite{tb:List Nat}{sc c c' a a' b b' p}(u:CEU tb sc c c')(y:CEU tb sc a a')(z:CEU tb sc b b'):CEU tb sc (.IfExp c a b p) (.ite c' a' b'):=⟨rfl,_,_,_,_,rfl,u,y,z⟩
theorem CEU.slice{tb:List Nat}{sc o o' lo lo' hi hi' st st' p q}(u:CEU tb sc o o')(y:CO (λx=>CEU tb sc x lo') lo lo')(z:CO (λx=>CEU tb sc x hi') hi hi')(B:CO (λx=>CEU tb sc x st') st st'):CEU tb sc (.Subscript o (.Slice lo hi st q) p) (.slice o' lo' hi' st'):=⟨rfl,_,_,_,_,_,_,rfl,u,y,z,B⟩
theorem CEU.sub{tb:List Nat}{sc o o' i i' p}(u:BM i=true)(y:CEU tb sc o o')(z:CEU tb sc i i'):CEU tb sc (.Subscript o i p) (.sub o' i'):=⟨rfl,_,_,_,rfl,u,y,z⟩
theorem CEU.attr{tb:List Nat}{sc x q a p i k}(u:IsV tb sc x i)(y:ixS AT a=some k):CEU tb sc (.Attribute (.Name x q) a p) (.attr (.v i) k):=⟨rfl,_,_,_,_,rfl,u,y⟩
theorem CEU.meth{tb:List Nat}{sc o o' a ap args args' p k}(u:Dz o=true)(y:ap.endLine=p.line)(z:args.length<29)(B:CEU tb sc o o')(a4:ixS AT a=some k)(T:CEbs tb sc args args'):CEU tb sc (.Call (.Attribute o a ap) args [] p) (.meth o' k args'):=⟨rfl,_,_,_,_,_,rfl,u,y,z,B,a4,T⟩
theorem CEU.callg{tb:List Nat}{sc x q args args' p i}(u:args.length<29)(y:IsG sc x i)(z:CEbs tb sc args args'):CEU tb sc (.Call (.Name x q) args [] p) (.call (.g i) args'):=⟨rfl,_,_,_,_,rfl,u,y,z⟩
theorem CEU.sorted{tb:List Nat}{sc a a' f f' kp p q}{x key:Str}(u:x = "sorted")(y:key = "key")(z:sc.lookup x=some .globalImplicit)(B:Bc a=true)(a4:CEU tb sc a a')(T:CEU tb sc f f'):CEU tb sc (.Call (.Name x q) [a] [⟨some key,f,kp⟩] p) (.sorted a' f'):=⟨rfl,_,_,_,_,_,_,_,rfl,u,y,z,B,a4,T⟩
theorem CEU.comp{tb:List Nat}{sc elt elt' x xp src src' cs cs' scope p i}(U:scope.kind=.function)(Y:(scope.names.lookup x=some .local\/scope.names.lookup x=some .cell))(z:Bd src=true)(B:okName x=true)(a4:(∀q∈scope.names,DL tb sc x q=true/\scope.names.lookup q.1=some q.2))(y:CEU tb sc src src')(T:ixS tb x=some i)(u:CEbs tb (relab sc scope.names) cs cs')(d:CEU tb (relab sc scope.names) elt elt'):CEU tb sc (.ListComp elt [⟨.Name x xp,src,cs,0⟩] scope p) (.comp elt' i src' cs'):=⟨rfl,_,_,_,_,_,_,_,rfl,U,Y,z,B,a4,y,T,u,d⟩
theorem CEbs.nil{tb:List Nat}{sc:Nms}:CEbs tb sc [] []:=rfl
theorem CEbs.cons{tb:List Nat}{sc e e' r r'}(a:Bc e=true)(b:CEU tb sc e e')(c:CEbs tb sc r r'):CEbs tb sc (e::r) (e'::r'):=⟨_,_,rfl,a,b,c⟩
theorem CKbs.nil{tb:List Nat}{sc:Nms}:CKbs tb sc [] []:=rfl
theorem CKbs.cons{tb:List Nat}{sc e e' r r'}(a:CEU tb sc e e')(b:CKbs tb sc r r'):CKbs tb sc (some e::r) (e'::r'):=⟨_,_,rfl,a,b⟩
theorem CO.no{C:aj->Prop}:CO C aa .none:=.inl ⟨rfl,rfl⟩
theorem CO.yes{C:aj->Prop}{e:aj}{y:E}(a:C e):CO C (some e) y:=.inr ⟨_,rfl,a⟩
def CE(tb:List Nat)(sc:Nms)(pe:aj)(e:E):Prop:=CEU tb sc pe e.st
def CEs(tb:List Nat)(sc:Nms)(pe:List aj)(es:List E):Prop:=CEbs tb sc pe (E.stL es)
def CKs(tb:List Nat)(sc:Nms)(pe:List (Option aj))(es:List E):Prop:=CKbs tb sc pe (E.stL es)
theorem CEs.cons{tb:List Nat}{sc:Nms}{e:aj}{y:E}{r:List aj}{d:List E}(a:Bc e=true)(b:CE tb sc e y)(c:CEs tb sc r d):CEs tb sc (e::r) (y::d):=⟨_,_,rfl,a,b,c⟩
mutual
def CP(tb:List Nat)(sc:Nms):aj->Pat->Prop
 |pe,.v i=>∃x p,pe=.Name x p/\sc.lookup x≠some .free/\IsV tb sc x i
 |pe,.tup es'=>∃es k p,pe=.Tuple es k p/\CPs tb sc es es'
def CPs(tb:List Nat)(sc:Nms):List aj->List Pat->Prop
 |pe,[]=>pe=[]
 |pe,e'::r'=>∃e r,pe=e::r/\Bc e=true/\CP tb sc e e'/\CPs tb sc r r'
end
theorem CP.v{tb:List Nat}{sc x p i}(a:sc.lookup x≠some .free)(b:IsV tb sc x i):CP tb sc (.Name x p) (.v i):=⟨_,_,rfl,a,b⟩
theorem CP.tup{tb:List Nat}{sc es es' k p}(a:CPs tb sc es es'):CP tb sc (.Tuple es k p) (.tup es'):=⟨_,_,_,rfl,a⟩
theorem CPs.nil{tb:List Nat}{sc:Nms}:CPs tb sc [] []:=rfl
theorem CPs.cons{tb:List Nat}{sc e e' r r'}(a:Bc e=true)(b:CP tb sc e e')(c:CPs tb sc r r'):CPs tb sc (e::r) (e'::r'):=⟨_,_,rfl,a,b,c⟩
mutual
def CSb(tb:List Nat)(sc:Nms):cR->S->Prop
 |ps,.setitem o' i' e'=>∃o i e p q,ps=.Assign [.Subscript o i q] e p/\BM i=true/\CEU tb sc o o'/\CEU tb sc i i'/\CEU tb sc e e'
 |ps,.setattr o' k e'=>∃o a e p q,ps=.Assign [.Attribute o a q] e p/\CEU tb sc o o'/\ixS AT a=some k/\CEU tb sc e e'
 |ps,.assign t' e'=>∃t e p,ps=.Assign [t] e p/\CP tb sc t t'/\CEU tb sc e e'
 |ps,.expr e'=>∃e p,ps=.Expr e p/\CEU tb sc e e'
 |ps,.ret e'=>∃e p,ps=.Return (some e) p/\CEU tb sc e e'
 |ps,.ite c' a' b'=>∃c a b p,ps=.If c a b p/\CEU tb sc c c'/\CSbs tb sc a a'/\CSbs tb sc b b'
 |ps,.for_ t' e' b'=>∃t e b p,ps=.For t e b [] p/\Bd e=true/\CP tb sc t t'/\CEU tb sc e e'/\CSbs tb sc b b'
 |ps,.while_ c' b'=>∃c b p,ps=.While c b [] p/\CEU tb sc c c'/\CSbs tb sc b b'
 |ps,.raise e'=>∃e p,ps=.Raise (some e) none p/\CEU tb sc e e'
 |ps,.try_ b' t' none h'=>∃b t h q p,ps=.Try b [.ExceptHandler (some t) none h q] [] [] p/\CSbs tb sc b b'/\CEU tb sc t t'/\CSbs tb sc h h'
 |ps,.try_ b' t' (some i) h'=>∃b t h q p x,ps=.Try b [.ExceptHandler (some t) (some x) h q] [] [] p/\CSbs tb sc b b'/\CEU tb sc t t'/\sc.lookup x≠some .free/\IsV tb sc x i/\CSbs tb sc h h'
 |ps,.pass=>∃p,ps=.Pass p
def CSbs(tb:List Nat)(sc:Nms):List cR->List S->Prop
 |ps,[]=>ps=[]
 |ps,e'::r'=>∃e r,ps=e::r/\CSb tb sc e e'/\CSbs tb sc r r'
end
theorem CSb.setitem{tb:List Nat}{sc o o' i i' e e' p q}(u:BM i=true)(y:CEU tb sc o o')(z:CEU tb sc i i')(B:CEU tb sc e e'):CSb tb sc (.Assign [.Subscript o i q] e p) (.setitem o' i' e'):=⟨_,_,_,_,_,rfl,u,y,z,B⟩
theorem CSb.setattr{tb:List Nat}{sc o o' a k e e' p q}(u:CEU tb sc o o')(y:ixS AT a=some k)(z:CEU tb sc e e'):CSb tb sc (.Assign [.Attribute o a q] e p) (.setattr o' k e'):=⟨_,_,_,_,_,rfl,u,y,z⟩
theorem CSb.assign{tb:List Nat}{sc t t' e e' p}(u:CP tb sc t t')(y:CEU tb sc e e'):CSb tb sc (.Assign [t] e p) (.assign t' e'):=⟨_,_,_,rfl,u,y⟩
theorem CSb.expr{tb:List Nat}{sc e e' p}(u:CEU tb sc e e'):CSb tb sc (.Expr e p) (.expr e'):=⟨_,_,rfl,u⟩
theorem CSb.ret{tb:List Nat}{sc e e' p}(u:CEU tb sc e e'):CSb tb sc (.Return (some e) p) (.ret e'):=⟨_,_,rfl,u⟩
theorem CSb.ite{tb:List Nat}{sc c c' a a' b b' p}(u:CEU tb sc c c')(y:CSbs tb sc a a')(z:CSbs tb sc b b'):CSb tb sc (.If c a b p) (.ite c' a' b'):=⟨_,_,_,_,rfl,u,y,z⟩
theorem CSb.for_{tb:List Nat}{sc t t' e e' b b' p}(u:Bd e=true)(y:CP tb sc t t')(z:CEU tb sc e e')(B:CSbs tb sc b b'):CSb tb sc (.For t e b [] p) (.for_ t' e' b'):=⟨_,_,_,_,rfl,u,y,z,B⟩
theorem CSb.while_{tb:List Nat}{sc c c' b b' p}(u:CEU tb sc c c')(y:CSbs tb sc b b'):CSb tb sc (.While c b [] p) (.while_ c' b'):=⟨_,_,_,rfl,u,y⟩
theorem CSb.raise{tb:List Nat}{sc e e' p}(u:CEU tb sc e e'):CSb tb sc (.Raise (some e) none p) (.raise e'):=⟨_,_,rfl,u⟩
theorem CSb.try0{tb:List Nat}{sc b b' t t' h h' q p}(u:CSbs tb sc b b')(y:CEU tb sc t t')(z:CSbs tb sc h h'):CSb tb sc (.Try b [.ExceptHandler (some t) none h q] [] [] p) (.try_ b' t' none h'):=⟨_,_,_,_,_,rfl,u,y,z⟩
theorem CSb.try1{tb:List Nat}{sc b b' t t' h h' q p x i}(u:CSbs tb sc b b')(y:CEU tb sc t t')(z:sc.lookup x≠some .free)(B:IsV tb sc x i)(a4:CSbs tb sc h h'):CSb tb sc (.Try b [.ExceptHandler (some t) (some x) h q] [] [] p) (.try_ b' t' (some i) h'):=⟨_,_,_,_,_,_,rfl,u,y,z,B,a4⟩
theorem CSb.pass{tb:List Nat}{sc p} :CSb tb sc (.Pass p) .pass:=⟨_,rfl⟩
theorem CSbs.nil{tb:List Nat}{sc:Nms}:CSbs tb sc [] []:=rfl
theorem CSbs.cons{tb:List Nat}{sc e e' r r'}(a:CSb tb sc e e')(b:CSbs tb sc r r'):CSbs tb sc (e::r) (e'::r'):=⟨_,_,rfl,a,b⟩
def CS(tb:List Nat)(sc:Nms)(ps:cR)(s:S):Prop:=CSb tb sc ps (stS s)
def CSs(tb:List Nat)(sc:Nms)(ps:List cR)(ss:List S):Prop:=CSbs tb sc ps (GI ss)
theorem CE.inv{tb:List Nat}{sc:Nms}{pe:aj}{e:E}(h:CE tb sc pe e):CEb tb sc pe e.st:=h.2
theorem CEU.inv{tb:List Nat}{sc:Nms}{pe:aj}{e:E}(h:CEU tb sc pe e):CEb tb sc pe e:=h.2
theorem CEbs.inv{tb:List Nat}{sc:Nms}{pe:List aj}{es:List E}(h:CEbs tb sc pe es):CEbs tb sc pe es:=h
theorem CEbs.inv_nil{tb:List Nat}{sc:Nms}{pe:List aj}(h:CEbs tb sc pe []):pe=[]:=h
theorem CSbs.inv{tb:List Nat}{sc:Nms}{ps:List cR}{ss:List S}(h:CSbs tb sc ps ss):CSbs tb sc ps ss:=h
noncomputable def E.un:E->E
 |.mu _ e=>e
 |e=>e
theorem CE.un{tb:List Nat}{sc:Nms}{pe:aj}{e:E}(h:CE tb sc pe e):CE tb sc pe e.un:=by
 cases e<;>exact h
theorem CEs.inv_nil{tb:List Nat}{sc:Nms}{pe:List aj}(h:CEs tb sc pe []):pe=[]:=h
theorem CEs.inv{tb:List Nat}{sc:Nms}{pe:List aj}{y:E}{d:List E}(h:CEs tb sc pe (y::d)):∃e r,pe=e::r/\Bc e=true/\CE tb sc e y/\CEs tb sc r d:=h
theorem CKs.inv{tb:List Nat}{sc:Nms}{pe:List (Option aj)}{es:List E}(h:CKs tb sc pe es):CKbs tb sc pe (E.stL es):=h
theorem CO.inv{C:aj->Prop}{pe:Option aj}{e:E}(h:CO C pe e):(pe=aa/\e=.none)\/∃x,pe=some x/\C x:=h
theorem CP.inv{tb:List Nat}{sc:Nms}{pe:aj}{e:Pat}(h:CP tb sc pe e):CP tb sc pe e:=h
theorem CPs.inv_nil{tb:List Nat}{sc:Nms}{pe:List aj}(h:CPs tb sc pe []):pe=[]:=h
theorem CPs.inv{tb:List Nat}{sc:Nms}{pe:List aj}{y:Pat}{d:List Pat}(h:CPs tb sc pe (y::d)):∃e r,pe=e::r/\Bc e=true/\CP tb sc e y/\CPs tb sc r d:=h
theorem CS.inv{tb:List Nat}{sc:Nms}{ps:cR}{s:S}(h:CS tb sc ps s):CSb tb sc ps (stS s):=h
theorem CSs.inv_nil{tb:List Nat}{sc:Nms}{pe:List cR}(h:CSs tb sc pe []):pe=[]:=h
theorem CSs.inv{tb:List Nat}{sc:Nms}{pe:List cR}{y:S}{d:List S}(h:CSs tb sc pe (y::d)):∃e r,pe=e::r/\CS tb sc e y/\CSs tb sc r d:=h
noncomputable def LT(tb:List Nat)(sc:Nms)(x:Str):Option ((Σ' i,IsV tb sc x i) ⊕' (Σ' i,IsG sc x i)) :=
 if ok:okName x=true then match q:sc.lookup x with
 |some .local=>match e:ixS tb x with
  |some i=>some (.inl ⟨i,ok,.inl q,e⟩)
  |none=>none
 |some .cell=>match e:ixS tb x with
  |some i=>some (.inl ⟨i,ok,.inr (.inl q),e⟩)
  |none=>none
 |some .free=>match e:ixS tb x with
  |some i=>some (.inl ⟨i,ok,.inr (.inr q),e⟩)
  |none=>none
 |some .globalImplicit=>match e:ixS GT x with
  |some i=>some (.inr ⟨i,ok,q,e⟩)
  |none=>none
 |_=>none
 else none
noncomputable def cAt(a:Str):Option {k:Nat // ixS AT a=some k}:=match ixS AT a with
 |some k=>some ⟨k,rfl⟩
 |none=>none
noncomputable def cIx(tb:List Nat)(a:Str):Option {k:Nat // ixS tb a=some k}:=match ixS tb a with
 |some k=>some ⟨k,rfl⟩
 |none=>none
noncomputable def okScope(tb:List Nat)(sc:Nms)(x:Str)(src:aj)(scope:Scope):Bool:=scope.kind == .function && ((scope.names.lookup x == some .local || scope.names.lookup x == some .cell) && (Bd src && (okName x && scope.names.all λp=>DL tb sc x p && scope.names.lookup p.1 == some p.2)))
theorem okScope.of{tb:List Nat}{sc:Nms}{x:Str}{B:aj}{scope:Scope}(h:okScope tb sc x B scope=true):scope.kind=.function/\(scope.names.lookup x=some .local\/scope.names.lookup x=some .cell)/\Bd B=true/\okName x=true/\(∀q∈scope.names,DL tb sc x q=true/\scope.names.lookup q.1=some q.2):=by
 simp only[okScope,be,beq_iff_eq,eh,bU]at h;exact h
abbrev RE(tb:List Nat):=((sc:Nms)->(pe:aj)->Option {e:E // CEU tb sc pe e})×((sc:Nms)->(pe:List aj)->Option {e:List E // CEbs tb sc pe e})×((sc:Nms)->(pe:List (Option aj))->Option {e:List E // CKbs tb sc pe e})×((sc:Nms)->(pe:Option aj)->Option {e:E // CO (λx=>CEU tb sc x e) pe e})
noncomputable def rE1(tb:List Nat)(rr:RE tb)(sc:Nms)(pe:aj):Option {e:E // CEU tb sc pe e}:=match pe with
  |.Constant c _ _=>(match c with
   |.none=>some ⟨.none,.none⟩
   |.bool b=>some ⟨.bool b,.bool⟩
   |.int i=>some ⟨.int i,.int⟩
   |.str s=>some ⟨.str s,.str⟩
   |_=>none)
  |.Name x _=>(match LT tb sc x with
   |some (.inl i)=>some ⟨.v i.1,.v i.2⟩
   |some (.inr i)=>some ⟨.g i.1,.g i.2⟩
   |none=>none)
  |.Tuple es _ _=>(rr.2.1 sc es).map λa=>⟨.tup a.1,.tup a.2⟩
  |.List es _=>(rr.2.1 sc es).map λa=>⟨.list a.1,.list a.2⟩
  |.Dict ks vs _=>(rr.2.2.1 sc ks).bind λa=>(rr.2.1 sc vs).map λb=>⟨.dict a.1 b.1,.dict a.2 b.2⟩
  |.BinOp l op r _=>(rr.1 sc l).bind λa=>(rr.1 sc r).map λb=>⟨.bin op a.1 b.1,.bin a.2 b.2⟩
  |.UnaryOp op x _=>(match op with
   |.USub=>(rr.1 sc x).map λa=>⟨.neg a.1,.neg a.2⟩
   |.Not=>(rr.1 sc x).map λa=>⟨.not a.1,.not a.2⟩
   |_=>none)
  |.BoolOp op es _=>(match op with
   |.And=>(rr.2.1 sc es).map λa=>⟨.and a.1,.and a.2⟩
   |.Or=>(rr.2.1 sc es).map λa=>⟨.or a.1,.or a.2⟩)
  |.Compare l os rs _=>(match os,rs with
   |[op],[r]=>if q:Bd r=true then (rr.1 sc l).bind λa=>(rr.1 sc r).map λb=>⟨.cmp op a.1 b.1,.cmp q a.2 b.2⟩ else none
   |[o1,o2],[b,c]=>if q:Bd b=true then (if q':Bd c=true then (rr.1 sc l).bind λx=>(rr.1 sc b).bind λy=>(rr.1 sc c).map λz=>⟨.cmp2 o1 o2 x.1 y.1 z.1,.cmp2 q q' x.2 y.2 z.2⟩ else none) else none
   |_,_=>none)
  |.IfExp c a b _=>(rr.1 sc c).bind λx=>(rr.1 sc a).bind λy=>(rr.1 sc b).map λz=>⟨.ite x.1 y.1 z.1,.ite x.2 y.2 z.2⟩
  |.Subscript o i _=>(match i with
   |.Slice lo hi st _=>(rr.1 sc o).bind λx=>(rr.2.2.2 sc lo).bind λy=>(rr.2.2.2 sc hi).bind λz=>(rr.2.2.2 sc st).map λu=>⟨.slice x.1 y.1 z.1 u.1,.slice x.2 y.2 z.2 u.2⟩
   |i=>if q:BM i=true then (rr.1 sc o).bind λx=>(rr.1 sc i).map λy=>⟨.sub x.1 y.1,.sub q x.2 y.2⟩ else none)
  |.Attribute o a _=>(match o with
   |.Name x _=>(match LT tb sc x with
    |some (.inl i)=>(cAt a).map λk=>⟨.attr (.v i.1) k.1,.attr i.2 k.2⟩
    |_=>none)
   |_=>none)
  |.Call f args kw p=>(match f,kw with
   |.Attribute o a ap,[]=>if q:Dz o=true then (if q':ap.endLine=p.line then (if q'':args.length<29 then (rr.1 sc o).bind λx=>(cAt a).bind λk=>(rr.2.1 sc args).map λy=>⟨.meth x.1 k.1 y.1,.meth q q' q'' x.2 k.2 y.2⟩ else none) else none) else none
   |.Name x _,[]=>if q:args.length<29 then (match LT tb sc x with
    |some (.inr i)=>(rr.2.1 sc args).map λy=>⟨.call (.g i.1) y.1,.callg q i.2 y.2⟩
    |_=>none) else none
   |.Name x _,[⟨some k,g,_⟩]=>(match args with
    |[a]=>if q:x = "sorted"/\k = "key"/\sc.lookup x=some .globalImplicit/\Bc a=true then (rr.1 sc a).bind λy=>(rr.1 sc g).map λz=>⟨.sorted y.1 z.1,.sorted q.1 q.2.1 q.2.2.1 q.2.2.2 y.2 z.2⟩ else none
    |_=>none)
   |_,_=>none)
  |.ListComp elt gens scope _=>(match gens with
   |[⟨.Name x _,src,cs,0⟩]=>if q:okScope tb sc x src scope=true then
     (rr.1 sc src).bind λy=>(cIx tb x).bind λi=>(rr.2.1 (relab sc scope.names) cs).bind λz=>(rr.1 (relab sc scope.names) elt).map λu=>⟨.comp u.1 i.1 y.1 z.1,.comp (okScope.of q).1 (okScope.of q).2.1 (okScope.of q).2.2.1 (okScope.of q).2.2.2.1 (okScope.of q).2.2.2.2 y.2 i.2 z.2 u.2⟩
    else none
   |_=>none)
  |_=>none
noncomputable def rEs1(tb:List Nat)(rr:RE tb)(sc:Nms)(pe:List aj):Option {e:List E // CEbs tb sc pe e}:=match pe with
 |[]=>some ⟨[],.nil⟩
 |e::r=>if q:Bc e=true then (rr.1 sc e).bind λa=>(rr.2.1 sc r).map λb=>⟨a.1::b.1,.cons q a.2 b.2⟩ else none
noncomputable def rKs1(tb:List Nat)(rr:RE tb)(sc:Nms)(pe:List (Option aj)):Option {e:List E // CKbs tb sc pe e}:=match pe with
 |[]=>some ⟨[],.nil⟩
 |e::r=>(match e with
  |some e=>(rr.1 sc e).bind λa=>(rr.2.2.1 sc r).map λb=>⟨a.1::b.1,.cons a.2 b.2⟩
  |none=>none)
noncomputable def rO1(tb:List Nat)(rr:RE tb)(sc:Nms)(pe:Option aj):Option {e:E // CO (λx=>CEU tb sc x e) pe e}:=match pe with
 |none=>some ⟨.none,.no⟩
 |some e=>(rr.1 sc e).map λa=>⟨a.1,.yes a.2⟩
noncomputable def rE(tb:List Nat)(n:Nat):RE tb:=Nat.rec (motive:=λZ=>RE tb) ⟨λZ Z=>none,λZ Z=>none,λZ Z=>none,λZ Z=>none⟩ (λZ r=>⟨rE1 tb r,rEs1 tb r,rKs1 tb r,rO1 tb r⟩) n
abbrev RP(tb:List Nat):=((sc:Nms)->(pe:aj)->Option {e:Pat // CP tb sc pe e})×((sc:Nms)->(pe:List aj)->Option {e:List Pat // CPs tb sc pe e})
noncomputable def rP1(tb:List Nat)(rr:RP tb)(sc:Nms)(pe:aj):Option {e:Pat // CP tb sc pe e}:=match pe with
  |.Name x _=>if q:sc.lookup x=some .free then none else (match LT tb sc x with
   |some (.inl i)=>some ⟨.v i.1,.v q i.2⟩
   |_=>none)
  |.Tuple es _ _=>(rr.2 sc es).map λa=>⟨.tup a.1,.tup a.2⟩
  |_=>none
noncomputable def rPs1(tb:List Nat)(rr:RP tb)(sc:Nms)(pe:List aj):Option {e:List Pat // CPs tb sc pe e}:=match pe with
 |[]=>some ⟨[],.nil⟩
 |e::r=>if q:Bc e=true then (rr.1 sc e).bind λa=>(rr.2 sc r).map λb=>⟨a.1::b.1,.cons q a.2 b.2⟩ else none
noncomputable def rP(tb:List Nat)(n:Nat):RP tb:=Nat.rec (motive:=λZ=>RP tb) ⟨λZ Z=>none,λZ Z=>none⟩ (λZ r=>⟨rP1 tb r,rPs1 tb r⟩) n
abbrev RS(tb:List Nat):=((sc:Nms)->(ps:cR)->Option {s:S // CSb tb sc ps s})×((sc:Nms)->(ps:List cR)->Option {s:List S // CSbs tb sc ps s})
noncomputable def rS1(tb:List Nat)(n:Nat)(rr:RS tb)(sc:Nms)(ps:cR):Option {s:S // CSb tb sc ps s}:=match ps with
  |.Assign ts e _=>(match ts with
   |[t]=>(match t with
    |.Subscript o i _=>if q:BM i=true then ((rE tb n).1 sc o).bind λx=>((rE tb n).1 sc i).bind λy=>((rE tb n).1 sc e).map λz=>⟨.setitem x.1 y.1 z.1,.setitem q x.2 y.2 z.2⟩ else none
    |.Attribute o a _=>((rE tb n).1 sc o).bind λx=>(cAt a).bind λk=>((rE tb n).1 sc e).map λz=>⟨.setattr x.1 k.1 z.1,.setattr x.2 k.2 z.2⟩
    |t=>((rP tb n).1 sc t).bind λx=>((rE tb n).1 sc e).map λz=>⟨.assign x.1 z.1,.assign x.2 z.2⟩)
   |_=>none)
  |.Expr e _=>((rE tb n).1 sc e).map λa=>⟨.expr a.1,.expr a.2⟩
  |.Return (some e) _=>((rE tb n).1 sc e).map λa=>⟨.ret a.1,.ret a.2⟩
  |.If c a b _=>((rE tb n).1 sc c).bind λx=>(rr.2 sc a).bind λy=>(rr.2 sc b).map λz=>⟨.ite x.1 y.1 z.1,.ite x.2 y.2 z.2⟩
  |.For t e b [] _=>if q:Bd e=true then ((rP tb n).1 sc t).bind λx=>((rE tb n).1 sc e).bind λy=>(rr.2 sc b).map λz=>⟨.for_ x.1 y.1 z.1,.for_ q x.2 y.2 z.2⟩ else none
  |.While c b [] _=>((rE tb n).1 sc c).bind λx=>(rr.2 sc b).map λy=>⟨.while_ x.1 y.1,.while_ x.2 y.2⟩
  |.Raise (some e) none _=>((rE tb n).1 sc e).map λa=>⟨.raise a.1,.raise a.2⟩
  |.Try b [.ExceptHandler (some t) nm h _] [] [] _=>(rr.2 sc b).bind λx=>((rE tb n).1 sc t).bind λy=>(rr.2 sc h).bind λz=>(match nm with
   |none=>some ⟨.try_ x.1 y.1 none z.1,.try0 x.2 y.2 z.2⟩
   |some v=>if q:sc.lookup v=some .free then none else (match LT tb sc v with
    |some (.inl i)=>some ⟨.try_ x.1 y.1 (some i.1) z.1,.try1 x.2 y.2 q i.2 z.2⟩
    |_=>none))
  |.Pass _=>some ⟨.pass,.pass⟩
  |_=>none
noncomputable def rSs1(tb:List Nat)(rr:RS tb)(sc:Nms)(ps:List cR):Option {s:List S // CSbs tb sc ps s}:=match ps with
 |[]=>some ⟨[],.nil⟩
 |e::r=>(rr.1 sc e).bind λa=>(rr.2 sc r).map λb=>⟨a.1::b.1,.cons a.2 b.2⟩
noncomputable def rS(tb:List Nat)(n:Nat):RS tb:=Nat.rec (motive:=λZ=>RS tb) ⟨λZ Z=>none,λZ Z=>none⟩ (λn r=>⟨rS1 tb n r,rSs1 tb r⟩) n
noncomputable def cSs(tb:List Nat)(n:Nat):(sc:Nms)->(ps:List cR)->Option {s:List S // CSbs tb sc ps s}:=(rS tb n).2
theorem LR{tb:List Nat}{n:Nat}{sc:Nms}{pe:List cR}{e:List S}(h:(cSs tb n sc pe).map (·.1)=some e):CSbs tb sc pe e:=by
 refine X1pr e (aU.mp h) λx Z=>?_;exact x.2
end
end
section
def TrY(h base:Heap)(e:Addr)(cls fl:Value):Prop :=
 ∃oe vs T oT ts,h.get? e=some oe/\oe.cls=cls/\oe.data=.fields vs/\(vs[2]?=some .none/\oe.dict=aa)/\vs[1]?=some (.ref T)/\base.get? T=aa/\T≠e/\h.get? T=some oT/\oT.data=.fields ts/\ts[3]?=some fl
structure FlyY(base:Heap)(l:List Env)(e:Addr)(cls fl:Value)(h:Heap):Prop where
 stays:base.StaysIn h
 new:base.get? e=aa
 frames:h.FunFrames base l
 tr:TrY h base e cls fl
theorem Obj.dict_mapF(o:Obj)(f:Array Value->Array Value):(cW f o).dict=o.dict:=by
 unfold cW;split<;>rfl
section
variable {M:Model}{A:cD}{E:Value->af->Prop}{s:af}
theorem entryY{base:Heap}{env:Env}{Y:List Env}{L e:Addr}{oe:Obj}{vs:Array Value}{head:Value}{U:Bool}{Q:Unit->af->Prop}
  (hfr:A.frames=some (env::Y)) (hl:s.heap.FunFrames base (env::Y)) (hf:env.frame=some L)
  (he:s.heap.get? e=some oe) (hkb:base.StaysIn s.heap) (hen:base.get? e=aa) (hd:oe.data=.fields vs) (h2':vs[2]?=some .none/\oe.dict=aa)
  (h:∀h',FlyY base (env::Y) e oe.cls (dL L) h'->s.heap.UpToSlots h'->Q () { s with heap:=h' }) :
  wpAny M A (do let a <- frameOf env;let u <- entryPlaceOf L U;let b <- EntryCells.newEntry head a .none (dL L) .none u;setField (.ref e) 1 b) Q E s:=by
 have h2:=h2'.1;have T:1<vs.size:=Nat.lt_of_succ_lt (eB.mp h2).1;have hene:e∉(env::Y).filterMap (·.frame):=λhm=>by
  refine Ao (hl.mem hm) λZ Z0=>?_;refine X1pp Z0 λo ho y=>?_;rw[he]at ho;injection ho with ho;subst ho;exact y vs hd
 refine ac (wpAny_frameOf_fun hfr hl hf λAd Af=>?_);refine ac (wpAny_entryPlaceOf λu hpl=>?_);unfold EntryCells.newEntry newFields;refine ac (bW ?_ (hpl.sizeOk5 _ _ _ _ _));generalize htb:({ cls:=.type "traceback",dict:=aa,data:=.fields ([head,.ref L,.none,dL L,.none]++(if u.isEmpty then aP 6 bo else u)).toArray }:Obj)=tb;have tbd:tb.data=.fields ([head,.ref L,.none,dL L,.none]++(if u.isEmpty then aP 6 bo else u)).toArray:=by rw[<- htb]
 have he₁:Ad.get? e=some oe:=(Af.2.1 e hene).trans he;have kb₁:base.StaysIn Ad:=λb o z=>(Af.2.1 b λhm=>by rw[(hl.mem hm).1]at z;exact nS z).trans (hkb b o z)
 have he₂:=au (h:=Ad) tb he₁;refine ff he₂ hd T (h _ ?_ ?_)
 all_goals
  have hTe:Ad.objs.size≠e:=eG (bc he₁);have hd₃:=dZ hd (·.setIfInBounds 1 (cE Ad.objs.size));have he₃:=bM (cW (·.setIfInBounds 1 (cE Ad.objs.size))) he₂ (fA hd₃);have B:∀b o,b≠e->Ad.get? b=some o->((Ad.push tb).update e (cW (·.setIfInBounds 1 (cE Ad.objs.size)))).get? b=some o:=λb o hbe O=>by
   rw[dg _ _ (d0 hbe)];exact au _ O
  have d:∀b o,s.heap.get? b=some o->(∀vs,o.data≠.fields vs)->b≠e:=λb o O y q=>by
   rw[q,he]at O;injection O with O;subst O;exact y vs hd
 .refine⟨λb o z=>B b o (λq=>by rw[q,hen]at z;exact nS z) (kb₁ b o z),hen,hl.of_keeps λb o O y=>?_,?_⟩
  .refine X1p (Af.2.2 b o O) λsl hs=>?_
   exact⟨_,B b _ (d b o O y) hs,rfl⟩
  .have hT₃:=(dg (Ad.push tb) (cW (·.setIfInBounds 1 (cE Ad.objs.size))) (d0 hTe)).trans (aD Ad (by rw[<- htb];rfl))
   refine⟨_,_,Ad.objs.size,_,_,he₃,Obj.cls_mapFields _ _,hd₃,⟨by rw[Array.getElem?_setIfInBounds_ne (by decide)];exact h2,(Obj.dict_mapF _ _).trans h2'.2⟩,by simp[T],kb₁.fresh,hTe,hT₃,tbd,?_⟩
   first|(simp;done)|(rcases hpl with rfl|⟨_,_,_,_,_,_,_,rfl⟩<;>simp)
 .intro b o O y
  refine X1p (Af.2.2 b o O) λsl hs=>?_;exact⟨sl,B b _ (d b o O y) hs⟩
theorem Jf{base:Heap}{env:Env}{Y:List Env}{L e:Addr}{B:Obj}{vs:Array Value}{Q:Unit->af->Prop}
  (z:A.frames=some (env::Y)) (U:s.heap.FunFrames base (env::Y)) (T:env.frame=some L)
  (O:s.heap.get? e=some B) (u:base.StaysIn s.heap) (d:base.get? e=aa) (y:B.data=.fields vs) (h1:vs[1]?=some .none) (h2:vs[2]?=some .none/\B.dict=aa)
  (h:∀h',FlyY base (env::Y) e B.cls (dL L) h'->s.heap.UpToSlots h'->Q () { s with heap:=h' }):wpAny M A (noteFrame (.ref e) env) Q E s:=by
 unfold noteFrame;simp only[T];refine ac (dk O y h1 ?_);rw[if_neg (by decide)]
 exact entryY z U T O u d y h2 h
theorem FY{base:Heap}{env:Env}{Y:List Env}{L e:Addr}{cls:Value}{Q:Unit->af->Prop}
  (hfr:A.frames=some (env::Y)) (hf:env.frame=some L) (x:FlyY base (env::Y) e cls .none s.heap)
  (h:∀h',FlyY base (env::Y) e cls (dL L) h'->s.heap.UpToSlots h'->Q () { s with heap:=h' }):wpAny M A (noteFrame (.ref e) env) Q E s:=by
 obtain⟨hkb,hen,hl,oe,vs,T,oT,ts,he,rfl,hd,h2,h1,O,hTe,hT,B,h3⟩:=x;unfold noteFrame;simp only[hf];refine ac (dk he hd h1 ?_);rw[if_pos (show (cE T != bo)=true from by simp)]
 refine ac (dk hT B h3 ?_);rw[if_neg (show ¬((bo == dL L)=true) from by simp[dL])]
 refine ac (ff hT B (eB.mp h3).1 ?_);have u:∀b,b≠T->(s.heap.update T (cW (·.setIfInBounds 3 bo))).get? b=s.heap.get? b:=λb z=>dg _ _ (d0 z);have d:∀b o,s.heap.get? b=some o->(∀vs,o.data≠.fields vs)->b≠T:=λb o z y q=>by
  rw[q,hT]at z;injection z with z;subst z;exact y ts B
 refine entryY hfr (hl.of_keeps λb o z y=>⟨o,(u b (d b o z y)).trans z,rfl⟩) hf ((u e (d0 hTe)).trans he)
  (λb o U=>(u b λq=>by rw[q,O]at U;exact nS U).trans (hkb b o U)) hen hd h2
  λh' x1 x2=>h h' x1 λb o z y=>x2 b o ((u b (d b o z y)).trans z) y
theorem Ft{base:Heap}{l:List Env}{e:Addr}{cls fl:Value}{Q:Unit->af->Prop}(x:FlyY base l e cls fl s.heap)
  (h:∀h',FlyY base l e cls .none h'->s.heap.UpToSlots h'->Q () { s with heap:=h' }):wpAny M A (setFlight (.ref e) aa) Q E s:=by
 obtain⟨hkb,hen,hl,oe,vs,T,oT,ts,he,hcls,hd,h2,h1,O,hTe,hT,B,h3⟩:=x;have Y:3<ts.size:=(eB.mp h3).1;have u:∀b,b≠T->(s.heap.update T (cW (·.setIfInBounds 3 ((aa:Option Addr).elim bo λf=>dL f)))).get? b=s.heap.get? b :=
  λb z=>dg _ _ (d0 z)
 have d:∀b o,s.heap.get? b=some o->(∀vs,o.data≠.fields vs)->b≠T:=λb o z y q=>by
  rw[q,hT]at z;injection z with z;subst z;exact y ts B
 unfold setFlight;refine ac (dk he hd h1 ?_);rw[if_pos (show (cE T != bo)=true from by simp)]
 refine ff hT B Y (h _ ⟨λb o U=>(u b λq=>by rw[q,O]at U;exact nS U).trans (hkb b o U),hen,
  hl.of_keeps λb o z y=>⟨o,(u b (d b o z y)).trans z,rfl⟩,?_⟩ λb o z y=>⟨o.slots,(u b (d b o z y)).trans z⟩)
 exact⟨oe,vs,T,_,_,(u e (d0 hTe)).trans he,hcls,hd,h2,h1,O,hTe,bM _ hT (fA (dZ B _)),dZ B _,by simp[Y]⟩
theorem FlyY.rest{base:Heap}{env:Env}{Y:List Env}{e:Addr}{cls fl:Value}{h:Heap}(x:FlyY base (env::Y) e cls fl h):FlyY base Y e cls fl h:=⟨x.stays,x.new,x.frames.2.2,x.tr⟩
theorem Jl{base h:Heap}{env:Env}{Y:List Env}{L e:Addr}{cls:Value}{U:List Value}{Q:Unit->af->Prop}
  (d:A.frames=some (env::Y)) (hf:env.frame=some L) (y:base.StaysIn h) (hl:h.FunFrames base (env::Y)) (u:Heap.MadeExcOf h s.heap e cls U)
  (hQ:∀h',FlyY base Y e cls .none h'->h.UpToSlots h'->Q () { s with heap:=h' }):wpAny M A (leaving env (.ref e)) Q E s:=by
 refine X1ppp u.there λt he htn ht=>?_;have fresh:∀b,h.get? b=aa->base.get? b=aa:=λb z=>by
  cases hq:base.get? b with|none=>rfl|some o'=>have:=y b o' hq;rw[z]at this;exact nS this
 unfold leaving;refine ac (Jf d (hl.of_keeps λb o z Z=>⟨o,u.keeps b o z,rfl⟩) hf he (λb o z=>u.keeps b o (y b o z)) (fresh e u.new) rfl rfl ⟨rfl,rfl⟩ λh' x1 B=>?_);exact Ft x1 λT x2 O=>hQ T x2.rest (((gS u.keeps).trans B).trans O)
theorem KI{base:Heap}{env:Env}{Y:List Env}{L e:Addr}{cls:Value}{Q:Unit->af->Prop}
  (z:A.frames=some (env::Y)) (T:env.frame=some L) (x:FlyY base (env::Y) e cls .none s.heap)
  (U:∀h',FlyY base Y e cls .none h'->s.heap.UpToSlots h'->Q () { s with heap:=h' }):wpAny M A (leaving env (.ref e)) Q E s:=by
 unfold leaving;refine ac (FY z T x λh' x1 B=>?_);exact Ft x1 λu x2 O=>U u x2.rest (B.trans O)
end
end
section
theorem Fw:entryFor table "proto.unchain"=some eT.«proto.unchain»:=entryFor_of_tree (by kernel_rfl)
section
variable {prog:dz}{w:World}{A:cD}{E:Value->af->Prop}{s:af}
theorem I4{α:Type}{e x:Addr}{o B:Obj}{vs ws:Array Value}{Q:α->af->Prop}(hh:A.handled=some (.ref x))(ne:x≠e)(U:s.heap.get? x=some o)(y:o.data=.fields vs)(z:vs[2]?=some .none)
  (O:s.heap.get? e=some B) (Y:B.data=.fields ws) (hz:2<ws.size) (h:E (.ref e) { s with heap:=s.heap.update e (cW (·.setIfInBounds 2 (.ref x))) }):wpAny (model prog w) A (raiseNew (.ref e):Sem α) Q E s:=by
 unfold raiseNew;refine ac (wpAny_handled ?_);rw[hh];dsimp only;have q:(cE x != cE e)=true:=by simp[ne]
 rw[if_pos q];refine ac (bI (wpAny_runValue (codeAny_builtin Fw ?_)));unfold eT.«proto.unchain»;refine ac (dk U y z ?_);rw[if_pos (show ((bo == bo)=true) from by decide)]
 refine ac (ah (ah ?_));unfold updateField;refine ac (ac (wpAny_load O ?_));rw[Y];dsimp only;rw[if_pos hz];exact wpAny_update O (wpAny_throw h)
theorem Kc{it:Addr}{y left step:Int}{Q:Option Value->af->Prop}{z:Option Addr}(hh:A.handled=z.map cE)(d:∀x,z=some x->∃o vs,s.heap.get? x=some o/\o.data=.fields vs/\vs[2]?=some bo)
  (u:gF s.heap it y left step) (Y:left<=0) (O:∀h',dn it s.heap h'->Q aa { s with heap:=h' }):wpAny (model prog w) A (pyNext (.ref it)) Q E s:=by
 cases z with
 |none=>exact wpAny_pyNext_range_end hh u Y O
 |some x =>
 refine X2ppp (d x rfl) λo vs U hd h2=>?_;have B:s.TypeIs (.ref it) "range_iterator":=⟨_,u,rfl⟩;unfold pyNext
 refine ac (eM (dM (name:=b6 "__next__") B F.slot_range_iterator_next
  (dr F.slot_range_iterator_next B F.entry_range_iterator_next ?_ (F.args_range_iterator_next_1 _))))
 show wpAny _ _ (field (.ref it) 0 >>= _) _ _ s;refine ac (dk u rfl (x:=dL y) rfl ?_);show wpAny _ _ (field (.ref it) 1 >>= _) _ _ s;refine ac (dk u rfl (x:=dL left) rfl ?_);show wpAny _ _ (field (.ref it) 2 >>= _) _ _ s;refine ac (dk u rfl (x:=dL step) rfl ?_);show wpAny _ _ (if left<=0 then _ else _) _ _ s;rw[if_pos Y];refine ac (wpAny_rule ?_);refine ac ?_;show wpAny _ _ (newExc (.type "StopIteration") [] >>= _) _ _ _;refine ac ?_;simp only[newExc,newTuple];refine ac (bW ?_ (by size_fits))
 refine ac (m:=gr _ _) (wpAny_of_eq (a:=bo) (by first|rfl|(simp only[gr];rfl)) ?_)
 refine bW ?_ (by size_fits)
 have lx:x<s.heap.objs.size:=bc U;refine I4 (x:=x) (o:=o) (vs:=vs) (hh:=hh) ?_ (au _ (au _ U)) hd h2 (aD _ rfl) rfl (bf rfl) ?_
 .rw[cK];exact bO (cM lx)
 refine ac (fJ (T := "StopIteration") (b:=true) ⟨_,bM _ (aD _ rfl) rfl,rfl⟩ isSubtype_stop ?_);refine ah (O _ λb ob ne e=>?_);have lb:b<s.heap.objs.size:=bc e;rw[dg _ _ (by rw[cK];exact eG (cM lb))]
 exact au _ (au _ e)
end
end
section
open PySem PyProof.Rows
structure Room(S:Sta)(N:Addr->Prop)(k:Nat)(A:cD):Prop where
 hh:A.handled=S.hx.map cE
 fr:∃l,A.frames=some l/\∀e∈l,e.scope.kind≠.module/\∃L,e.frame=some L/\N L/\S.g.get? L=aa
 dp:A.depth+2 * k<900
 un:A.units+20 * k<9000
theorem Room.quiet{S:Sta}{N:Addr->Prop}{k:Nat}{A:cD}(r:Room S N k A)(hq:S.hx=aa):A.handled=aa:=r.hh.trans (by rw[hq];rfl)
theorem Room.wide{S:Sta}{N d:Addr->Prop}{k:Nat}{A:cD}(r:Room S N k A)(h:∀a,N a->d a):Room S d k A :=
 ⟨r.hh,(by refine X1pp r.fr λl e q=>?_;exact⟨l,e,λev O=>by refine Ao (q ev O) λB u=>?_;refine X1ppp u λL z Y y=>?_;exact⟨B,L,z,h L Y,y⟩⟩),r.dp,r.un⟩
structure Fx(S:Sta) where
 A:cD
 tb:List Nat
 env:Env
 b:Store×af
 N:Addr->Prop
 k:Nat
 room:Room S N k A
 fk:env.scope.kind=.function
 fg:env.globals=bZ
 fb:env.builtins=builtinsNs
 fc:∀x,env.kindOf x=some .cell->∃c,env.cells.lookup x=some c
variable {S:Sta}
def Frm(A:cD)(a:Addr):Prop:=∃l,A.frames=some l/\∃e∈l,e.frame=some a
abbrev Fx.P(F:Fx S):Addr->Prop:=Frm F.A
abbrev Fx.St(F:Fx S):=Internal.St S F.tb F.env F.N F.P F.b
abbrev Fx.D(F:Fx S)(V:Store):Addr->Prop:=DN F.N V
abbrev Fx.O(F:Fx S):Addr->Prop:=Own F.env
noncomputable abbrev Fx.sc(F:Fx S):Nms:=F.env.scope.names
inductive PW(F:Fx S)(m:Nat->Option AV)(V:Store)(s:af){α:Type}(P:α->Store->af->Prop)(a:α)(s':af):Prop
 |mk (V':Store)(st:Step F.P F.O V s V' s')(h:F.St m V' s')(p:P a V' s'):PW F m V s P a s'
inductive PV(F:Fx S)(Q:AV->Store->Prop)(v:Value)(V':Store)(s':af):Prop
 |mk (av:AV)(r:Rep S.cv s'.heap (F.D V') av v)(q:Q av V'):PV F Q v V' s'
inductive PVs(F:Fx S)(Q:List AV->Store->Prop)(vs:List Value)(V':Store)(s':af):Prop
 |mk (avs:List AV)(r:RepL S.cv s'.heap (F.D V') avs vs)(q:Q avs V'):PVs F Q vs V' s'
def W(F:Fx S)(m:Nat->Option AV)(V:Store)(s:af){α:Type}(t:Sem α)(P:α->Store->af->Prop)(X:Value->af->Prop):Prop :=
 wpAny (model S.prog S.w) F.A t (PW F m V s P) X s
abbrev VT(F:Fx S)(m:Nat->Option AV)(V:Store)(s:af)(t:Sem Value)(Q:AV->Store->Prop)(X:Value->af->Prop):Prop :=
 W F m V s t (PV F Q) X
section
variable {F:Fx S}{m:Nat->Option AV}{V:Store}{s:af}{α β:Type}{X:Value->af->Prop}
theorem W.mono{t:Sem α}{P u:α->Store->af->Prop}(h:W F m V s t P X)(k:∀a V' s',Step F.P F.O V s V' s'->F.St m V' s'->P a V' s'->u a V' s'):W F m V s t u X :=
 aJ h (λa s' ⟨V',st,h1,h2⟩=>⟨V',st,h1,k a V' s' st h1 h2⟩) λZ Z e=>e
theorem W.out{t:Sem α}{P:α->Store->af->Prop}{Q:α->af->Prop}(h:W F m V s t P X)(k:∀a V' s',Step F.P F.O V s V' s'->F.St m V' s'->P a V' s'->Q a s'):wpAny (model S.prog S.w) F.A t Q X s :=
 aJ h (λa s' ⟨V',st,h1,h2⟩=>k a V' s' st h1 h2) λZ Z e=>e
theorem W.later{t:Sem α}{P:α->Store->af->Prop}{AC:Store}{Ak:af}(h:W F m V s t P X)(st:Step F.P F.O AC Ak V s):wpAny (model S.prog S.w) F.A t (PW F m AC Ak P) X s :=
 aJ h (λ_ _ ⟨V',st',h1,h2⟩=>⟨V',st.trans st',h1,h2⟩) λZ Z e=>e
end
def ET(F:Fx S)(m:Nat->Option AV)(V:Store)(e:E)(Q:AV->Store->Prop)(X:Value->af->Prop):Prop :=
 ∀pe,CE F.tb F.sc pe e->∀s,F.St m V s->VT F m V s (eval pe F.env) Q X
def TT(F:Fx S)(m:Nat->Option AV)(V:Store)(e:E)(Q:Bool->Store->Prop)(X:Value->af->Prop):Prop :=
 ∀pe,CE F.tb F.sc pe e->∀s,F.St m V s->W F m V s (isTrue pe F.env (eval pe F.env)) (λb V' Z=>Q b V') X
def EsT(F:Fx S)(m:Nat->Option AV)(V:Store)(es:List E)(Q:List AV->Store->Prop)(X:Value->af->Prop):Prop :=
 ∀pes pos,CEs F.tb F.sc pes es->∀s,F.St m V s ->
  W F m V s (spliced (backTo pos (fh pes F.env))) (PVs F Q) X
section
variable {tb:List Nat}{env:Env}{N P:Addr->Prop}{b:Store×af}{m:Nat->Option AV}{V V':Store}{s s':af}
theorem Inv.tok(x:Inv S N V s)(t:Nat):Inv S N V { s with toks:=t }:=⟨x.keep,x.gens,x.drawn,x.os,x.σg,x.σN,x.Nin,x.rep⟩
theorem St.tok(x:Internal.St S tb env N P b m V s)(t:Nat):Internal.St S tb env N P b m V { s with toks:=t }:=⟨x.inv.tok t,x.loc,⟨x.frm.ext,x.frm.frm,x.frm.dom,x.frm.there⟩,x.pN,x.new,x.own,x.gb⟩
theorem RepO.ext{cv:Nat->Value}{D D':Addr->Prop}{h h':Heap}(x:Ext D h h')(U:∀b,D' b->D b\/h.get? b=aa){o:AObj}{a:Addr}(r:RepO cv h D o a)(k:∀ob,h.get? a=some ob->h'.get? a=some ob):RepO cv h' D' o a:=by
 induction r with|list e r=>exact .list (k _ e) (r.ext x U)|dict e u n r=>exact .dict (k _ e) u n (r.ext x U)|inst e n=>exact .inst (k _ e) n|attrs e r=>exact .attrs (k _ e) (r.ext x U)
theorem Inv.dom_there(x:Inv S N V s){a:Addr}(d:Dom V a):∃ob,s.heap.get? a=some ob:=by
 cases e:V a with|none=>exact absurd e d|some o=>refine X1pp ((x.rep a o e).there) λob h Z=>?_;exact⟨ob,h⟩
theorem Inv.not_dom(x:Inv S N V s){a:Addr}(e:s.heap.get? a=aa):¬Dom V a:=λd=>by refine X1p (x.dom_there d) λy h=>?_;rw[e]at h;exact nS h
theorem Inv.not_D(x:Inv S N V s){a:Addr}(e:s.heap.get? a=aa):¬DN N V a:=λd=>d.elim (x.not_dom e) λd=>by refine X1pp (x.Nin a d) λy h Z=>?_;rw[e]at h;exact nS h
theorem Inv.not_g(x:Inv S N V s){a:Addr}(e:s.heap.get? a=aa):S.g.get? a=aa:=by
 cases q:S.g.get? a with|none=>rfl|some o=>have:=x.keep a o q;rw[e]at this;exact nS this
theorem Inv.not_sm(x:Inv S N V s){a:Addr}(e:s.heap.get? a=aa):(a == cL)=false:=by
 cases q:a == cL with
 |false=>rfl
 |true =>
  refine X1p S.sm λo h=>?_
  have:=x.keep _ _ h
  rw[<- eq_of_beq q,e]at this;exact nS this
theorem Loc.step{P':Addr->Prop}{cv:Nat->Value}{g:Heap}(l:Loc cv g tb env m N V s.heap)(x:Step P' noO V s V' s')(hP:∀a,P' a->N a):Loc cv g tb env m N V' s'.heap:=by
 obtain⟨mc,cm,n,c,o,ap,cl,r⟩:=l;have B:∀a,Own env a->∃ob,s.heap.get? a=some ob:=by
  intro a ha
  rcases ha with rfl|⟨y,u⟩
  .refine X3pp n λob Z Z e Z=>?_;exact⟨ob,e⟩
  .refine X1pp (c y a u) λob e Z=>?_;exact⟨ob,e⟩
 have U:s'.heap.Ns env.locals mc:=by
  refine X3ppp n λob es ep e z q=>?_;refine X1pppp (x.there' e (o _ (.inl rfl)).1 id) λT O Z d' Z=>?_;exact⟨T,es,ep,O,d'.trans z,q⟩
 refine⟨mc,cm,U,λy cc u=>?_,λa ha=>⟨λd=>?_,(o a ha).2⟩,ap,cl,λy i av hi hm=>?_⟩
 .refine X1pp (c y cc u) λob e z=>?_
  refine X1pppp (x.there' e (o _ (.inr ⟨y,u⟩)).1 id) λT O Z d' Z=>?_;exact⟨T,O,d'.trans z⟩
 .rcases x.dom a d with q|q
  .exact(o a ha).1 q
  .refine X1p (B a ha) λob e=>?_;rw[q]at e;exact nS e
 .exact LocAt.map (r y i av hi hm) (λh2=>h2.step x (λZ h=>h.elim) hP) (λZ Y=>Y) (λZ Y=>Y)
theorem Loc.weak{cv:Nat->Value}{g h:Heap}{m':Nat->Option AV}(l:Loc cv g tb env m N V h)(O:∀i av,m' i=some av->m i=some av):Loc cv g tb env m' N V h:=by
 obtain⟨T,u,n,c,o,Y,cl,r⟩:=l;exact⟨T,u,n,c,o,Y,cl,λx i av hi h=>r x i av hi (O i av h)⟩
theorem St.to{u:Addr->Prop}(x:Internal.St S tb env N P b m V s)(st:Step u noO V s V' s')(i:Inv S N V' s')(d:∀a,u a->P a):Internal.St S tb env N P b m V' s':=⟨i,x.loc.step st (λa h=>x.pN a (d a h)),x.frm.trans (st.wide d),x.pN,x.new,x.own,x.gb⟩
theorem Inv.grow(x:Inv S N V s){h':Heap}(k:∀a o,s.heap.get? a=some o->h'.get? a=some o)(tk:Nat):Inv S N V { s with heap:=h',toks:=tk }/\Step noO noO V s V { s with heap:=h',toks:=tk }:=by
 have st:Step noO noO V s V { s with heap:=h',toks:=tk }:=Step.of_keeps k λZ h=>.inl h
 exact⟨⟨λa o e=>k a o (x.keep a o e),x.gens,x.drawn,x.os,x.σg,x.σN,λa h=>by refine X1pp (x.Nin a h) λo e f=>?_;exact⟨o,k a o e,f⟩,λa o e=>(x.rep a o e).ext (Ext.of_keeps k) (λZ h=>.inl h) (k a)⟩,st⟩
theorem St.grow(x:Internal.St S tb env N P b m V s){h':Heap}(k:∀a o,s.heap.get? a=some o->h'.get? a=some o)(tk:Nat):Internal.St S tb env N P b m V { s with heap:=h',toks:=tk }/\Step noO noO V s V { s with heap:=h',toks:=tk }:=by
 refine Ao (x.inv.grow k tk) λi st=>?_;exact⟨x.to st i (λZ h=>h.elim),st⟩
theorem A3{a c:Addr}{o:AObj}(h:Dom (V.set a o) c):c=a\/Dom V c:=by
 by_cases e:c=a
 .exact .inl e
 .right;unfold Dom Store.set at h;rw[if_neg e]at h;exact h
theorem Inv.new(x:Inv S N V s){h':Heap}(k:∀a o,s.heap.get? a=some o->h'.get? a=some o)(tk:Nat){a:Addr}(ha:s.heap.get? a=aa){o:AObj}
  (r:RepO S.cv h' (DN N (V.set a o)) o a):Inv S N (V.set a o) { s with heap:=h',toks:=tk }/\Step noO noO V s (V.set a o) { s with heap:=h',toks:=tk }:=by
 have st:Step noO noO V s (V.set a o) { s with heap:=h',toks:=tk }:=Step.of_keeps k λc h=>(A3 h).elim (λq=>.inr (q▸ha)) .inl
 refine⟨⟨λa o e=>k a o (x.keep a o e),x.gens,x.drawn,x.os,λc h=>(st.dom c h).elim (x.σg c) x.not_g,λc h=>(A3 h).elim (λq n=>?_) (x.σN c),λa h=>?_,λc z e=>?_⟩,st⟩
 .clear r st h;subst q;refine X1pp (x.Nin c n) λy e Z=>?_;rw[ha]at e;exact nS e
 .refine X1pp (x.Nin a h) λo e f=>?_;exact⟨o,k a o e,f⟩
 .by_cases q:c=a
  .clear ha st;subst q;rw[Store.set_self]at e;obtain rfl:=ae e;exact r
  .rw[Store.set_ne _ _ q]at e
   exact(x.rep c z e).ext (Ext.of_keeps k) (λd h=>h.elim (λh=>(A3 h).elim (λq=>.inr (q▸ha)) λq=>.inl (.inl q)) λh=>.inl (.inr h)) (k c)
theorem St.new'(x:Internal.St S tb env N P b m V s){h':Heap}(k:∀a o,s.heap.get? a=some o->h'.get? a=some o)(tk:Nat){a:Addr}(ha:s.heap.get? a=aa){o:AObj}
  (r:RepO S.cv h' (DN N (V.set a o)) o a):Internal.St S tb env N P b m (V.set a o) { s with heap:=h',toks:=tk }/\Step noO noO V s (V.set a o) { s with heap:=h',toks:=tk }:=by
 refine Ao (x.inv.new k tk ha r) λi st=>?_;exact⟨x.to st i (λZ h=>h.elim),st⟩
theorem Inv.upd(x:Inv S N V s){h':Heap}{a:Addr}(y:Dom V a)(k:∀c o,c≠a->s.heap.get? c=some o->h'.get? c=some o)(tk:Nat){o:AObj}
  (r:RepO S.cv h' (DN N (V.set a o)) o a):Inv S N (V.set a o) { s with heap:=h',toks:=tk }/\Step noO noO V s (V.set a o) { s with heap:=h',toks:=tk }:=by
 have dd:∀c,Dom (V.set a o) c->Dom V c:=λc h=>(A3 h).elim (λq=>q▸y) id;have U:Ext (DN N V) s.heap h':=Ext.of_but λc z d e=>k c z (λq=>d (q▸.inl y)) e;have st:Step noO noO V s (V.set a o) { s with heap:=h',toks:=tk }:=Step.of_but (λc z d Z e=>k c z (λq=>d (q▸y)) e) (λc h=>.inl (dd c h)) (λc z e=>by
  by_cases q:c=a
  .clear y k dd;subst q;refine X1pp r.there λY h Z=>?_;exact⟨Y,h⟩
  .exact⟨z,k c z q e⟩)
 refine⟨⟨λc z e=>k c z (λq=>?_) (x.keep c z e),x.gens,x.drawn,x.os,λc h=>x.σg c (dd c h),λc h=>x.σN c (dd c h),λc h=>?_,λc z e=>?_⟩,st⟩
 .clear k r dd st;subst q;rw[x.σg c y]at e;exact nS e
 .refine X1pp (x.Nin c h) λo e f=>?_;exact⟨o,k c o (λq=>x.σN a y (q▸h)) e,f⟩
 .by_cases q:c=a
  .clear y k dd st;subst q;rw[Store.set_self]at e;obtain rfl:=ae e;exact r
  .rw[Store.set_ne _ _ q]at e
   exact(x.rep c z e).ext U (λd h=>.inl (h.imp (dd d) id)) (k c · q)
theorem St.upd(x:Internal.St S tb env N P b m V s){h':Heap}{a:Addr}(y:Dom V a)(k:∀c o,c≠a->s.heap.get? c=some o->h'.get? c=some o)(tk:Nat){o:AObj}
  (r:RepO S.cv h' (DN N (V.set a o)) o a):Internal.St S tb env N P b m (V.set a o) { s with heap:=h',toks:=tk }/\Step noO noO V s (V.set a o) { s with heap:=h',toks:=tk }:=by
 refine Ao (x.inv.upd y k tk r) λi st=>?_;exact⟨x.to st i (λZ h=>h.elim),st⟩
theorem Inv.drop(x:Inv S N V s)(h:∀a o,V' a=some o->V a=some o):Inv S N V' s/\Step noO noO V s V' s:=by
 have dd:∀a,Dom V' a->Dom V a:=λa d=>by
  cases e:V' a with|none=>exact absurd e d|some o=>unfold Dom;rw[h a o e];simp
 have st:Step noO noO V s V' s:=Step.of_keeps (λZ Z e=>e) λa d=>.inl (dd a d);exact⟨⟨x.keep,x.gens,x.drawn,x.os,λa d=>x.σg a (dd a d),λa d=>x.σN a (dd a d),x.Nin,λa o e=>(x.rep a o (h a o e)).ext (Ext.refl _ _) (λb h=>.inl (h.imp (dd b) id)) λZ q=>q⟩,st⟩
theorem St.drop(x:Internal.St S tb env N P b m V s)(h:∀a o,V' a=some o->V a=some o):Internal.St S tb env N P b m V' s/\Step noO noO V s V' s:=by
 refine Ao (x.inv.drop h) λi st=>?_;exact⟨x.to st i (λZ h=>h.elim),st⟩
theorem St.weak(x:Internal.St S tb env N P b m V s){m':Nat->Option AV}(h:∀i av,m' i=some av->m i=some av):Internal.St S tb env N P b m' V s:=⟨x.inv,x.loc.weak h,x.frm,x.pN,x.new,x.own,x.gb⟩
end
theorem Step.any{P O:Addr->Prop}{V V':Store}{s s':af}(x:Step noO noO V s V' s'):Step P O V s V' s':=(x.mono λZ h=>h.elim).wide λZ h=>h.elim
def Fresh(V:Store)(o:AObj)(fz:AV)(Q:AV->Store->Prop):Prop:=Q fz V\/∃i,∀a,¬Dom V a->Q (.loc a i) (V.set a o)
section
variable {F:Fx S}{m:Nat->Option AV}{V:Store}{X:Value->af->Prop}{s:af}{Q:AV->Store->Prop}
theorem Rep.st{V':Store}{s':af}{av:AV}{v:Value}(r:Rep S.cv s.heap (F.D V) av v)(x:Step F.P F.O V s V' s')(h:F.St m V' s'):Rep S.cv s'.heap (F.D V') av v:=Internal.Rep.step x h.own h.pN r
theorem RepL.st{V':Store}{s':af}{av:List AV}{v:List Value}(r:RepL S.cv s.heap (F.D V) av v)(x:Step F.P F.O V s V' s')(h:F.St m V' s'):RepL S.cv s'.heap (F.D V') av v:=Internal.RepL.step x h.own h.pN r
theorem now{v:Value}{av:AV}(hs:F.St m V s)(r:Rep S.cv s.heap (F.D V) av v)(q:Q av V) :
  PW F m V s (PV F Q) v s:=⟨V,Step.refl _ _ _ _,hs,av,r,q⟩
theorem Bi{v:Value}{av:AV}(t:Nat)(hs:F.St m V s)(r:Rep S.cv s.heap (F.D V) av v)(q:Q av V) :
  PW F m V s (PV F Q) v { s with toks:=t }:=⟨V,Step.toks _ _ _ _ _,hs.tok t,av,r,q⟩
theorem J2{a:Addr}{o:AObj}{N:Addr->Prop}(ha:s.heap.get? a=aa):∀b,DN N (V.set a o) b->DN N V b\/s.heap.get? b=aa :=
 λZ h=>h.elim (λh=>(A3 h).elim (λq=>.inr (q▸ha)) λq=>.inl (.inl q)) λh=>.inl (.inr h)
theorem BD{h':Heap}{tk:Nat}{a:Addr}{vs:List Value}{n:Nat}{l:List AV}(hs:F.St m V s)(k:∀b o,s.heap.get? b=some o->h'.get? b=some o)(ha:s.heap.get? a=aa)
  (e:h'.get? a=some (AH vs.toArray n)) (r:RepL S.cv s.heap (F.D V) l vs) (q:Fresh V (.list l) (.list l) Q) :
  PW F m V s (PV F Q) (.ref a) { s with heap:=h',toks:=tk }:=by
 rcases q with q|⟨i,q⟩
 .refine Ao (hs.grow k tk) λY st=>?_
  exact⟨V,st.any,Y,_,.list e (hs.inv.not_D ha) (r.st st.any Y),q⟩
 .refine Ao (hs.new' k tk ha (o:=.list l) (.list e (r.ext (Ext.of_keeps k) (J2 ha)))) λY st=>?_
  exact⟨_,st.any,Y,_,.loc a i,q a (hs.inv.not_dom ha)⟩
theorem EE{h':Heap}{tk:Nat}{a:Addr}{es:List aO}{n:Nat}{l:List (Ag×AV)}(hs:F.St m V s)(k:∀b o,s.heap.get? b=some o->h'.get? b=some o)(ha:s.heap.get? a=aa)
  (e:h'.get? a=some (A5 es.toArray n)) (y:(l.map (·.1)).Nodup) (r:RepD S.cv s.heap (F.D V) l es) (q:Fresh V (.dict l) (.dict l) Q) :
  PW F m V s (PV F Q) (.ref a) { s with heap:=h',toks:=tk }:=by
 rcases q with q|⟨i,q⟩
 .refine Ao (hs.grow k tk) λY st=>?_
  exact⟨V,st.any,Y,_,.dict e (hs.inv.not_D ha) (hs.inv.not_sm ha) y (r.step st.any Y.own Y.pN),q⟩
 .refine Ao (hs.new' k tk ha (o:=.dict l) (.dict e (hs.inv.not_sm ha) y (r.ext (Ext.of_keeps k) (J2 ha)))) λY st=>?_
  exact⟨_,st.any,Y,_,.loc a i,q a (hs.inv.not_dom ha)⟩
theorem AB(h:Heap):h.get? h.objs.size=aa:=by
 cases q:h.get? h.objs.size with|none=>rfl|some o=>exact absurd (bc q) (Nat.lt_irrefl _)
theorem Ax(h:Heap)(o:Obj):∀b ob,h.get? b=some ob->(h.push o).get? b=some ob:=λZ Z e=>au o e
theorem Ku{h':Heap}{tk:Nat}{a:Addr}{vs:List Value}{n:Nat}{l:List AV}(hs:F.St m V s)(k:∀b o,s.heap.get? b=some o->h'.get? b=some o)(ha:s.heap.get? a=aa)
  (e:h'.get? a=some (By vs.toArray n)) (r:RepL S.cv s.heap (F.D V) l vs) (q:Q (.tup l) V) :
  PW F m V s (PV F Q) (.ref a) { s with heap:=h',toks:=tk }:=by
 refine Ao (hs.grow k tk) λY st=>?_;exact⟨V,st.any,Y,_,.tup e (hs.inv.not_D ha) (r.st st.any Y),q⟩
end
end
section
open PySem PyProof.Rows
variable {S:Sta}
section
variable {F:Fx S}{m:Nat->Option AV}{V:Store}{X:Value->af->Prop}{Q:AV->Store->Prop}
theorem ET.mono{e:E}{z:AV->Store->Prop}(h:ET F m V e Q X)(k:∀a V,Q a V->z a V):ET F m V e z X :=
 λpe d s hs=>(h pe d s hs).mono λ_ _ _ _ _ ⟨av,r,q⟩=>⟨av,r,k _ _ q⟩
theorem TT.mono{e:E}{Q z:Bool->Store->Prop}(h:TT F m V e Q X)(k:∀a V,Q a V->z a V):TT F m V e z X :=
 λpe d s hs=>(h pe d s hs).mono λZ Z Z Z Z q=>k _ _ q
theorem ET.none(h:Q .none V):ET F m V .none Q X:=by
 intro pe d s hs;refine X2l pe d.inv λZ Z=>?_;exact wpAny_Constant_none (now hs .none h)
theorem ET.bool{b:Bool}(h:Q (.bool b) V):ET F m V (.bool b) Q X:=by
 intro pe d s hs;refine X2l pe d.inv λZ Z=>?_;exact wpAny_Constant_bool (now hs (.bool b) h)
theorem ET.int{i:Int}(h:Q (.int i) V):ET F m V (.int i) Q X:=by
 intro pe d s hs;refine X2l pe d.inv λZ Z=>?_;exact wpAny_Constant_int (Bi _ hs (.int i _) h)
theorem ET.str{x:Str}(h:Q (.str x) V):ET F m V (.str x) Q X:=by
 intro pe d s hs;refine X2l pe d.inv λZ Z=>?_;exact wpAny_Constant_str (Bi _ hs (.str x _) h)
theorem load_v{i:Nat}{x:Str}{av:AV}{s:af}{d:Value->af->Prop}(u:IsV F.tb F.sc x i)(y:m i=some av)(hs:F.St m V s)(h:∀v,Rep S.cv s.heap (F.D V) av v->d v s)
  : wpAny (model S.prog S.w) F.A (loadName F.env x) d X s:=by
 obtain⟨B,U,n,c,_,ap,_,r⟩:=hs.loc
 have:=r x i av u.ix y
 have kd:F.env.kindOf x=F.sc.lookup x:=rfl
 rcases u.kind with q|q|q
 .rw[kd,q]at this
  refine X1pp this λv Y z=>?_;exact wpAny_loadName_local F.fk (kd.trans q) n Y (h v z)
 .rw[kd,q]at this
  refine X2ppp this λv O T Y z=>?_
  have:=c x O T
  rw[Y]at this;exact wpAny_loadName_cell F.fk (kd.trans q) T this (h v z)
 .rw[kd,q]at this
  refine X2ppp this λv O T Y z=>?_
  have:=c x O T
  rw[Y]at this;exact wpAny_loadName_free F.fk (kd.trans q) T this (h v z) (Kp u.ok)
theorem ET.v{i:Nat}{av:AV}(O:m i=some av)(h:Q av V):ET F m V (.v i) Q X:=by
 intro pe d s hs;refine X2lp pe d.inv λZ Z u=>?_;exact wpAny_Name (load_v u O hs λv r=>now hs r h) (A8 u.ok)
structure Glob(S:Sta)(i:Nat)(v:Value):Prop where
 at_:∀x,ixS GT x=some i->S.mg x=some v\/(S.mg x=aa/\S.mb x=some v)
theorem Dj{A:cD}{i:Nat}{x:Str}{pos:Pos}{v:Value}{s:af}{z:Value->af->Prop}(u:IsG F.sc x i)(d:Glob S i v)(hs:F.St m V s)(h:z v s):wpAny (model S.prog S.w) A (eval (.Name x pos) F.env) z X s:=by
 have ng:s.heap.Ns F.env.globals S.mg:=by rw[F.fg];exact S.ng.keeps hs.inv.keep
 have nb:s.heap.Ns F.env.builtins S.mb:=by rw[F.fb];exact S.nb.keeps hs.inv.keep
 rcases d.at_ x u.ix with q|⟨q,U⟩
 .exact gt F.fk u.kind (Calls.loadGlobal_global ng q h) (A8 u.ok)
 .exact gt F.fk u.kind (Calls.loadGlobal_builtin ng q nb U h) (A8 u.ok)
theorem ET.g_int{i:Nat}{n:Int}{t:Tok}(d:Glob S i (.int n t))(h:Q (.int n) V):ET F m V (.g i) Q X:=by
 intro pe y s hs;refine X2lp pe y.inv λZ Z u=>?_;exact Dj u d hs (now hs (.int n t) h)
theorem EsT.nil{Q:List AV->Store->Prop}(h:Q [] V):EsT F m V [] Q X:=by
 intro B pos d s hs;obtain rfl:=d.inv_nil;exact wpAny_items_nil ⟨V,Step.refl _ _ _ _,hs,[],.nil,h⟩
theorem AQ{e:aj}{r:List aj}{env:Env}(h:Bc e=true):fh (e::r) env=(false,eval e env)::fh r env:=by
 cases e<;>first|rfl|exact nF h
theorem EsT.cons{e:E}{r:List E}{Q:List AV->Store->Prop}(h:ET F m V e (λa Aa=>EsT F m Aa r (λas z=>Q (a::as) z) X) X):EsT F m V (e::r) Q X:=by
 intro B pos hc s hs;refine X2lppp B hc.inv λZ Z O d T=>?_;refine wpAny_items_cons ?_ (AQ O);refine(h _ d s hs).out ?_;intro va Aa Ac Ai Ad u;obtain⟨a,U,AO⟩:=u;refine(AO _ _ T Ac Ad).out ?_;intro vs z Aj y Y u;obtain⟨as,rs,Bn⟩:=u;exact⟨z,Ai.trans y,Y,a::as,.cons (U.st y Y) rs,Bn⟩
theorem RepL.length{cv:Nat->Value}{h:Heap}{D:Addr->Prop}{l:List AV}{vs:List Value}(r:RepL cv h D l vs):vs.length=l.length:=by
 induction l generalizing vs with|nil=>rw[show vs=[] from r.inv];rfl|cons x l y=>refine X2lpp vs r.inv λv z Z b=>?_;exact congrArg fS (y b)
abbrev big:Nat:=1000000
theorem Bk{n:Nat}(h:n<=big):n<=gT:=by unfold big at h;rw[dW];exact lin [n] [] (.b V0 A6) [.b V0 Ay] rfl h
theorem ET.tup{es:List E}(h:EsT F m V es (λl V'=>l.length<=big/\Q (.tup l) V') X):ET F m V (.tup es) Q X:=by
 intro pe d s hs;refine X3lp pe d.inv λZ Z Z z=>?_;refine wpAny_Tuple ((h _ _ z s hs).out ?_);intro vs Aa Ac T y u;obtain⟨l,r,hz,q⟩:=u;refine⟨Bk (by rw[r.length];exact hz),?_⟩
 obtain⟨V',st,Y,O⟩:=Ku (tk:=Ac.toks) y (Ax _ _) (AB _) (aD _ rfl) r q;exact⟨V',T.trans st,Y,O⟩
theorem ET.list{es:List E}(h:EsT F m V es (λl V'=>l.length<=big/\Fresh V' (.list l) (.list l) Q) X):ET F m V (.list es) Q X:=by
 intro pe d s hs;refine X2lp pe d.inv λZ Z z=>?_;refine wpAny_List ((h _ _ z s hs).out ?_);intro vs Aa Ac T y u;obtain⟨l,r,hz,q⟩:=u;refine⟨Bk (by rw[r.length];exact hz),?_⟩
 obtain⟨V',st,Y,O⟩:=BD (tk:=Ac.toks) y (Ax _ _) (AB _) (aD _ rfl) r q;exact⟨V',T.trans st,Y,O⟩
def BT(F:Fx S)(m:Nat->Option AV)(V:Store)(op:gR)(a b:AV)(Q:AV->Store->Prop)(X:Value->af->Prop):Prop :=
 ∀va vb s,F.St m V s->Rep S.cv s.heap (F.D V) a va->Rep S.cv s.heap (F.D V) b vb->VT F m V s (binaryOp op va vb) Q X
def KT(F:Fx S)(m:Nat->Option AV)(V:Store)(op:CmpOp)(a b:AV)(Q:Bool->Store->Prop)(X:Value->af->Prop):Prop :=
 ∀va vb s,F.St m V s->Rep S.cv s.heap (F.D V) a va->Rep S.cv s.heap (F.D V) b vb->W F m V s (compareOp op va vb) (λv V' Z=>∃c,v=.bool c/\Q c V') X
theorem ET.bin{op:gR}{l r:E}(h:ET F m V l (λa Aa=>ET F m Aa r (λb z=>BT F m z op a b Q X) X) X):ET F m V (.bin op l r) Q X:=by
 intro pe hc s hs;refine X3lpp pe hc.inv λZ Z Z hl d=>?_;refine wpAny_BinOp ((h _ hl s hs).out ?_);intro U Aa Ac Ai Ad u;obtain⟨a,O,AO⟩:=u;refine(AO _ d Ac Ad).out ?_;intro B z Aj y Y u;obtain⟨b,T,Bn⟩:=u;exact(Bn U B Aj Y (O.st y Y) T).later (Ai.trans y)
theorem BT.add{a b:Int}(h:Q (.int (a+b)) V):BT F m V .Add (.int a) (.int b) Q X:=by
 intro U B s hs u T;refine X1l U u.inv λZ=>?_;refine X1l B T.inv λZ=>?_;exact add_int (Bi _ hs (.int _ _) h)
theorem BT.sub{a b:Int}(h:Q (.int (a - b)) V):BT F m V .Sub (.int a) (.int b) Q X:=by
 intro U B s hs u T;refine X1l U u.inv λZ=>?_;refine X1l B T.inv λZ=>?_;exact sub_int (Bi _ hs (.int _ _) h)
theorem BT.mul{a b:Int}(O:IntMulOk a b)(h:Q (.int (a * b)) V):BT F m V .Mult (.int a) (.int b) Q X:=by
 intro U B s hs u T;refine X1l U u.inv λZ=>?_;refine X1l B T.inv λZ=>?_;exact mul_int (Bi _ hs (.int _ _) h) O
theorem BT.mod{a b:Int}(z:b≠0)(h:Q (.int (a.fmod b)) V):BT F m V .Mod (.int a) (.int b) Q X:=by
 intro U B s hs u T;refine X1l U u.inv λZ=>?_;refine X1l B T.inv λZ=>?_;exact mod_int z (Bi _ hs (.int _ _) h)
theorem BT.div{a b:Int}(z:b≠0)(U:b.natAbs<1073741824)(h:Q (.int (a.fdiv b)) V):BT F m V .FloorDiv (.int a) (.int b) Q X:=by
 intro T B s hs u y;refine X1l T u.inv λZ=>?_;refine X1l B y.inv λZ=>?_;exact floordiv_int z (Bi _ hs (.int _ _) h) (.inl (PyProof.noPylong_small U))
theorem BT.addStr{a b:Str}(hz:a.length+b.length<=big)(h:Q (.str (a++b)) V):BT F m V .Add (.str a) (.str b) Q X:=by
 intro U B s hs u T;refine X1l U u.inv λZ=>?_;refine X1l B T.inv λZ=>?_;exact add_str (λd tk=>Bi tk hs (.str _ _) h) (Bk hz)
theorem BT.mulStr{a:Str}{n:Int}(U:MulOk a n)(h:Q (.str (d3 a n)) V):BT F m V .Mult (.str a) (.int n) Q X:=by
 intro T B s hs u y;refine X1l T u.inv λZ=>?_;refine X1l B y.inv λZ=>?_;exact SB.mul U (λd tk=>Bi tk hs (.str _ _) h)
end
end
section
open PySem PyProof.Rows
variable {S:Sta}
noncomputable def dl(V:Store):AV->Option (List AV)
 |.list l=>some l
 |.loc a _=>(V a).bind AObj.list?
 |_=>aa
noncomputable def dd(V:Store):AV->Option (List (Ag×AV))
 |.dict l=>some l
 |.loc a _=>(V a).bind AObj.dict?
 |_=>aa
theorem dl_list(V:Store)(l:List AV):dl V (.list l)=some l:=rfl
theorem BS{V:Store}{a:Addr}{i:Nat}{l:List AV}(h:V a=some (.list l)):dl V (.loc a i)=some l:=by show (V a).bind _=_;rw[h];rfl
theorem CQ{V:Store}{a:Addr}{i:Nat}{l:List (Ag×AV)}(h:V a=some (.dict l)):dd V (.loc a i)=some l:=by show (V a).bind _=_;rw[h];rfl
section
variable {N:Addr->Prop}{V:Store}{s:af}
theorem Rep.lst{a:AV}{v:Value}{l:List AV}(r:Rep S.cv s.heap (DN N V) a v)(hs:Inv S N V s)(h:dl V a=some l) :
  ∃ad vs n,v=.ref ad/\s.heap.get? ad=some (AH (az vs) n)/\RepL S.cv s.heap (DN N V) l vs:=by
 cases a with
 |list l'=>refine X3pppp r.inv λa b c e f Z r=>?_;exact⟨a,b,c,e,f,ae h▸r⟩
 |loc ad z =>
  refine X1pp (AD (show (V ad).bind AObj.list?=some l from h)) λo e h=>?_
  obtain rfl:=AObj.list?_out h;refine X2pp ((hs.rep ad _ e).inv) λvs n g q=>?_;exact⟨ad,vs,n,r.inv,g,q⟩
 |_=>exact(Am rfl h).elim
theorem Rep.dct{a:AV}{v:Value}{l:List (Ag×AV)}(r:Rep S.cv s.heap (DN N V) a v)(hs:Inv S N V s)(h:dd V a=some l) :
  ∃ad es n,v=.ref ad/\s.heap.get? ad=some (A5 (az es) n)/\(ad == cL)=false/\(l.map (·.1)).Nodup/\RepD S.cv s.heap (DN N V) l es:=by
 cases a with
 |dict l'=>refine X3pppp r.inv λa b c e f Z r=>?_;exact⟨a,b,c,e,f,ae h▸r⟩
 |loc ad z =>
  refine X1pp (AD (show (V ad).bind AObj.dict?=some l from h)) λo e h=>?_
  obtain rfl:=AObj.dict?_out h;refine X2pp ((hs.rep ad _ e).inv) λvs n g q=>?_;exact⟨ad,vs,n,r.inv,g,q⟩
 |_=>exact(Am rfl h).elim
end
mutual
noncomputable def GC:AV->Option d5
 |.none=>some .none
 |.bool b=>some (.bool b)
 |.int i=>some (.int i)
 |.str s=>some (.str s)
 |.tup l=>(Dt l).map .tuple
 |.list l=>(Dt l).map .list
 |.dict _=>aa
 |.inst _=>aa
 |.loc _ _=>aa
 |.exc _=>aa
 |.range _ _ _=>aa
 |.nums _=>aa
 |.cls _=>aa
noncomputable def Dt:List AV->Option (List d5)
 |[]=>some []
 |x::l=>(GC x).bind λd=>(Dt l).map λds=>d::ds
end
theorem Fd{h:Heap}{v:Value}{d Y:d5}(e:some d=some Y)(r:∃as,Reads h v d as):∃as,Reads h v Y as:=ae e▸r
theorem Kb{h:Heap}{Y:List d5}(e:some []=some Y):∃as,ReadsAll h [] Y as:=ae e▸⟨_,.nil⟩
theorem Rep.reads{cv:Nat->Value}{h:Heap}{D:Addr->Prop}{a:AV}{v:Value}(r:Rep cv h D a v):∀{d:d5},GC a=some d->∃as,Reads h v d as :=
 Rep.rec (motive_1:=λa v Z=>∀{d:d5},GC a=some d->∃as,Reads h v d as) (motive_2:=λl vs Z=>∀{Y:List d5},Dt l=some Y->∃as,ReadsAll h vs Y as) (motive_3:=λZ Z Z=>True) (motive_4:=λZ Z Z=>True)
  (λe=>Fd e ⟨_,.none⟩) (λb Z e=>Fd e ⟨_,.bool b⟩) (λi t Z e=>Fd e ⟨_,.int i t⟩) (λx t Z e=>Fd e ⟨_,.str x t⟩)
  (λg Z Z y Z e=>by
   refine X1pp (aU.mp e) λY u Z0=>?_;clear e;subst Z0;obtain⟨as,q⟩:=y u;exact⟨as,.tuple g rfl rfl q⟩)
  (λg Z Z y Z e=>by
   refine X1pp (aU.mp e) λY u Z1=>?_;clear e;subst Z1;obtain⟨as,q⟩:=y u;exact⟨_,.list g rfl rfl q⟩)
  (λZ Z Z Z Z Z Z e=>(Am rfl e).elim) (λZ Z Z Z Z Z Z Z e=>(Am rfl e).elim) (λZ Z Z e=>(Am rfl e).elim) (λZ Z Z Z Z Z e=>(Am rfl e).elim) (λZ Z Z e=>(Am rfl e).elim) (λZ Z e=>(Am rfl e).elim) (λZ Z Z Z Z Z e=>(Am rfl e).elim)
  (λe=>Kb e)
  (λZ Z T z Z e=>by
   refine X1pp (e6.mp e) λd u e=>?_;refine X1pp (aU.mp e) λY O B=>?_;clear e;subst B;refine X1p (T u) λas q=>?_;refine X1p (z O) λbs U=>?_;exact⟨_,.cons q U⟩)
  trivial (λZ Z Z Z Z Z=>trivial) trivial (λZ Z Z Z=>trivial) r
theorem RepL.reads{cv:Nat->Value}{h:Heap}{D:Addr->Prop}{l:List AV}{vs:List Value}{Y:List d5}(r:RepL cv h D l vs)(e:Dt l=some Y):∃as,ReadsAll h vs Y as:=by
 induction l generalizing vs Y with
 |nil=>rw[show vs=[] from r.inv];exact Kb e
 |cons x l y =>
  refine X2lpp vs r.inv λv z a b=>?_;refine X1pp (e6.mp e) λd u e=>?_;refine X1pr Y (aU.mp e) λY T=>?_;refine X1p (a.reads u) λas q=>?_;refine X1p (y b T) λbs U=>?_;exact⟨_,.cons q U⟩
noncomputable def BX(V:Store)(a:AV):Option d5:=match a with
 |.loc _ _=>(dl V a).bind λl=>(Dt l).map .list
 |a=>GC a
theorem Rep.readsS{N:Addr->Prop}{V:Store}{s:af}{a:AV}{v:Value}{d:d5}(r:Rep S.cv s.heap (DN N V) a v)(hs:Inv S N V s)(h:BX V a=some d):∃as,Reads s.heap v d as:=by
 cases a with
 |loc ad O =>
  simp only[BX,e6,aU]at h;refine X1pp h λl Y u=>?_;refine X1pr d u λT z=>?_;refine X3lpp v (r.lst hs Y) λad vs n e U=>?_;refine X1p (U.reads z) λas q=>?_;exact⟨_,.list e rfl rfl (by simpa using q)⟩
 |_=>exact r.reads h
theorem RepL.app{cv:Nat->Value}{h:Heap}{D:Addr->Prop}{l k:List AV}{vs ws:List Value}(B:RepL cv h D l vs)(O:RepL cv h D k ws):RepL cv h D (l++k) (vs++ws):=by
 induction l generalizing vs with
 |nil=>rw[show vs=[] from B.inv];exact O
 |cons v l y=>obtain⟨u,z,rfl,a,b⟩:=B.inv;exact .cons a (y b)
section
variable {F:Fx S}{m:Nat->Option AV}{V:Store}{X:Value->af->Prop}{Q:AV->Store->Prop}
theorem BT.addList{a b:AV}{l k:List AV}(ha:dl V a=some l)(hb:dl V b=some k)(hz:l.length+k.length<=big)(h:Fresh V (.list (l++k)) (.list (l++k)) Q):BT F m V .Add a b Q X:=by
 intro O B s hs z u;refine X3lpp O (z.lst hs.inv ha) λad vs n e U=>?_;refine X3lpp B (u.lst hs.inv hb) λbd ws n2 T Y=>?_;have y:vs.toArray.size+ws.toArray.size<=gT:=by
  have h1:=U.length;have h2:=Y.length;simp only[aF];exact Bk (lin [l.length,k.length,big,vs.length,ws.length] [] (.b (.A V3 V4) V2) [.b (.A V0 V1) V2,.d V3 V0,.d V4 V1] rfl hz h1 h2)
 refine concat_meets ⟨_,e,rfl⟩ ⟨_,T,rfl⟩ noFill_list_add seq_list_add PySem.F.slot_list_add PySem.F.entry_list_add (PySem.F.args_list_add_2 _ _) (list_addW ad bd vs.toArray ws.toArray n n2 aa aa #[] #[] y) ⟨e,T,?_⟩;have q:vs.toArray++ws.toArray=(vs++ws).toArray:=by simp
 rw[q];exact BD (tk:=s.toks) hs (Ax _ _) (AB _) (aD _ rfl) (U.app Y) h
theorem KT.intEq{a b:Int}{Q:Bool->Store->Prop}(h:Q (a == b) V):KT F m V .Eq (.int a) (.int b) Q X:=by
 intro U B s hs u T;refine X1l U u.inv λZ=>?_;refine X1l B T.inv λZ=>?_;exact eq_int ⟨V,Step.refl _ _ _ _,hs,_,rfl,h⟩
theorem KT.intNe{a b:Int}{Q:Bool->Store->Prop}(h:Q (a != b) V):KT F m V .NotEq (.int a) (.int b) Q X:=by
 intro U B s hs u T;refine X1l U u.inv λZ=>?_;refine X1l B T.inv λZ=>?_;exact ne_int ⟨V,Step.refl _ _ _ _,hs,_,rfl,h⟩
theorem KT.intLt{a b:Int}{Q:Bool->Store->Prop}(h:Q (decide (a<b)) V):KT F m V .Lt (.int a) (.int b) Q X:=by
 intro U B s hs u T;refine X1l U u.inv λZ=>?_;refine X1l B T.inv λZ=>?_;exact lt_int ⟨V,Step.refl _ _ _ _,hs,_,rfl,h⟩
theorem KT.intLe{a b:Int}{Q:Bool->Store->Prop}(h:Q (decide (a<=b)) V):KT F m V .LtE (.int a) (.int b) Q X:=by
 intro U B s hs u T;refine X1l U u.inv λZ=>?_;refine X1l B T.inv λZ=>?_;exact le_int ⟨V,Step.refl _ _ _ _,hs,_,rfl,h⟩
theorem KT.intGt{a b:Int}{Q:Bool->Store->Prop}(h:Q (decide (b<a)) V):KT F m V .Gt (.int a) (.int b) Q X:=by
 intro U B s hs u T;refine X1l U u.inv λZ=>?_;refine X1l B T.inv λZ=>?_;exact gt_int ⟨V,Step.refl _ _ _ _,hs,_,rfl,h⟩
theorem KT.eq{a b:AV}{Y y:d5}{Q:Bool->Store->Prop}(ha:BX V a=some Y)(z:BX V b=some y)(d:dF Y=true)(B:dF y=true)(h:Q (eV Y y) V):KT F m V .Eq a b Q X:=by
 intro O u s hs U T;refine X1p (U.readsS hs.inv ha) λas U=>?_;refine X1p (T.readsS hs.inv z) λbs T=>?_;exact eq_dataH U T d B (by have:=F.room.un;unfold cLine;exact lin [F.A.units,F.k] [] (.c (.A V0 K64) Hv) [.c (.A V0 (.M 20 V1)) B7] rfl this) ⟨V,Step.refl _ _ _ _,hs,_,rfl,h⟩
theorem KT.ne{a b:AV}{Y y:d5}{Q:Bool->Store->Prop}(ha:BX V a=some Y)(z:BX V b=some y)(d:dF Y=true)(B:dF y=true)(h:Q (!PyData.eqv Y y) V):KT F m V .NotEq a b Q X:=by
 intro O u s hs U T;refine X1p (U.readsS hs.inv ha) λas U=>?_;refine X1p (T.readsS hs.inv z) λbs T=>?_;exact ne_dataH U T d B (by have:=F.room.un;unfold cLine;exact lin [F.A.units,F.k] [] (.c (.A V0 K64) Hv) [.c (.A V0 (.M 20 V1)) B7] rfl this) ⟨V,Step.refl _ _ _ _,hs,_,rfl,h⟩
noncomputable def key(k:Ag):List Int:=[k.1,k.2]
class inductive XsOf(cv:Nat->Value)(h:Heap)(D:Addr->Prop):List (Ag×AV)->List (List Int×Addr×Value)->Prop
 |nil:XsOf cv h D [] []
 |cons {k:Ag}{x:AV}{l:List (Ag×AV)}{t:Addr}{tx ty:Tok}{n:Nat}{v:Value}{xs:List (List Int×Addr×Value)} :
   h.get? t=some (By #[.int k.1 tx,.int k.2 ty] n)->¬D t->Rep cv h D x v->XsOf cv h D l xs->XsOf cv h D ((k,x)::l) ((key k,t,v)::xs)
theorem G7{h:Heap}{k:Ag}{t:Addr}{B T:Tok}{n:Nat}(e:h.get? t=some (By #[.int k.1 B,.int k.2 T] n)):IsTupleKey (d6 S.prog S.w) h (key k) t :=
 ⟨_,_,n,e,rfl,rfl,.cons (by simp[d6,Value.isInt]) (.cons (by simp[d6,Value.isInt]) .nil)⟩
theorem RepD.xs{cv:Nat->Value}{h:Heap}{D:Addr->Prop}{l:List (Ag×AV)}{es:List aO}(r:RepD cv h D l es):∃xs,XsOf cv h D l xs/\es=xs.map (entryOfKey (dB (d6 S.prog S.w))):=by
 induction l generalizing es with
 |nil=>exact⟨[],.nil,r.inv⟩
 |cons p l y =>
  refine X6lpppp es r.inv λt B T n v r e d q rs=>?_;obtain⟨xs,Y,z⟩:=y rs;exact⟨_,.cons e d q Y,by rw[z];rfl⟩
theorem XsOf.repD{cv:Nat->Value}{h:Heap}{D:Addr->Prop}{l:List (Ag×AV)}{xs:List (List Int×Addr×Value)}(r:XsOf cv h D l xs):RepD cv h D l (xs.map (entryOfKey (dB (d6 S.prog S.w)))):=by
 induction r with|nil=>exact .nil|cons e d r _ y=>exact .cons e d r y
theorem G3{a b:Ag}(h:key a=key b):a=b:=by
 obtain⟨y,d⟩:=a;obtain⟨z,B⟩:=b;simp only[key,List.cons.injEq,and_true]at h;rw[h.1,h.2]
theorem XsOf.keys{cv:Nat->Value}{h:Heap}{D:Addr->Prop}{l:List (Ag×AV)}{xs:List (List Int×Addr×Value)}(r:XsOf cv h D l xs):xs.map (·.1)=l.map λp=>key p.1:=by
 induction r with|nil=>rfl|cons _ _ _ _ y=>rw[bQ,bQ,y]
theorem Jg{l:List (Ag×AV)}(h:(l.map (·.1)).Nodup):(l.map λp=>key p.1).Nodup:=by
 have:(l.map λp=>key p.1)=(l.map (·.1)).map key:=by rw[aY];rfl
 rw[this];exact cz.mpr (h.imp λd q=>d (G3 q))
theorem XsOf.is{cv:Nat->Value}{h:Heap}{D:Addr->Prop}{l:List (Ag×AV)}{xs:List (List Int×Addr×Value)}(r:XsOf cv h D l xs):∀x∈xs,(dB (d6 S.prog S.w)).is h x.1 x.2.1:=by
 induction r with|nil=>exact λZ u=>absurd u bh|cons e _ _ _ y=>exact λx u=>(ax.mp u).elim (λq=>q▸G7 e) (y x)
theorem Hn{cv:Nat->Value}{h:Heap}{D:Addr->Prop}{l:List (Ag×AV)}{xs:List (List Int×Addr×Value)}{d:Addr}{n:Nat}(x:XsOf cv h D l xs)(y:(l.map (·.1)).Nodup)
  (e:h.get? d=some (A5 (xs.map (entryOfKey (dB (d6 S.prog S.w)))).toArray n)):h.DictOfH (dB (d6 S.prog S.w)) d xs :=
 ⟨_,_,n,e,⟨rfl,rfl,rfl⟩,rfl,by simp,x.is,by rw[x.keys];exact Jg y⟩
noncomputable def Cn(l:List (Ag×AV))(k:Ag):Option AV:=(l.find? λp=>decide (p.1=k)).map (·.2)
theorem XsOf.at_{cv:Nat->Value}{h:Heap}{D:Addr->Prop}(k:Ag){l:List (Ag×AV)}{xs:List (List Int×Addr×Value)}(r:XsOf cv h D l xs) :
  match Cn l k,atKey xs (key k)with
  |some av,some p=>Rep cv h D av p.2
  |aa,aa=>True
  |_,_=>False:=by
 induction r with
 |nil=>exact trivial
 | @cons k' x l t _ _ _ v xs e d r rs y =>
  unfold Cn atKey at y ⊢
  by_cases q:k'=k
  .clear y;subst q;simp only[dC,decide_true,dD];exact r
  .have U:¬key k'=key k:=λz=>q (G3 z)
   simp only[dC,decide_eq_false q,decide_eq_false U];exact y
noncomputable abbrev sp(k:Ag):AV:=.tup [.int k.1,.int k.2]
theorem Rep.spot{cv:Nat->Value}{h:Heap}{D:Addr->Prop}{k:Ag}{v:Value}(r:Rep cv h D (sp k) v):∃t B T n,v=.ref t/\h.get? t=some (By #[.int k.1 B,.int k.2 T] n)/\¬D t:=by
 obtain⟨t,vs,n,rfl,e,d,r⟩:=r.inv;obtain⟨v,us,rfl,Y,U⟩:=r.inv;refine X2ppp U.inv λu ws Z0 y O=>?_;clear r U;subst Z0;obtain rfl:=O.inv;refine X1p Y.inv λB z=>?_;clear Y r;subst z;obtain⟨T,rfl⟩:=y.inv;exact⟨_,_,_,_,rfl,e,d⟩
theorem CA(F:Fx S):(dB (d6 S.prog S.w)).room F.A.in1:=by
 show F.A.in1.units<cLine
 have:=F.room.un;unfold cLine;simp;exact lin [F.A.units,F.k] [] (.c (.A V0 K1) Hv) [.c (.A V0 (.M 20 V1)) B7] rfl this
theorem room_0(F:Fx S):(dB (d6 S.prog S.w)).room F.A:=by
 show F.A.units<cLine
 have:=F.room.un;unfold cLine;exact lin [F.A.units,F.k] [] (.c V0 Hv) [.c (.A V0 (.M 20 V1)) B7] rfl this
theorem KT.inDict{k:Ag}{b:AV}{l:List (Ag×AV)}{Q:Bool->Store->Prop}(hb:dd V b=some l)(h:Q (Cn l k).isSome V):KT F m V .In (sp k) b Q X:=by
 intro y B s hs Y T;refine X4lpp y Y.spot λt tx ty n e d=>?_;refine X3lpppp B (T.dct hs.inv hb) λad es n' e' z O U=>?_;refine X1pp (RepD.xs (S:=S) U) λxs u Z0=>?_;clear U;subst Z0;have q:=u.at_ k;refine wpAny_in_heap (CA F) (G7 e) z (Hn u O e') ⟨V,Step.toks _ _ _ _ _,hs.tok _,_,rfl,?_⟩
 have:(atKey xs (key k)).isSome=(Cn l k).isSome:=by
  revert q
  cases Cn l k<;>cases atKey xs (key k)<;>simp
 rw[this];exact h
theorem KT.isNone{a:AV}{Q:Bool->Store->Prop}(h:match a with|.none=>Q true V|.cls _=>False|_=>Q false V):KT F m V .Is a .none Q X:=by
 intro Y B s hs U T
 cases T
 refine is_none ⟨V,Step.refl _ _ _ _,hs,_,rfl,?_⟩
 induction U using Rep.casesOn<;>first|exact h|exact h.elim
theorem KT.isNotNone{a:AV}{Q:Bool->Store->Prop}(h:match a with|.none=>Q false V|.cls _=>False|_=>Q true V):KT F m V .IsNot a .none Q X:=by
 intro Y B s hs U T
 cases T
 refine isNot_none ⟨V,Step.refl _ _ _ _,hs,_,rfl,?_⟩
 induction U using Rep.casesOn<;>first|exact h|exact h.elim
theorem Fk{op:CmpOp}{r:aj}(h:Bd r=true):behindInMarks op r=false:=by
 cases r<;>first|rfl|exact nF h
theorem ET.cmp{op:CmpOp}{l r:E}(h:ET F m V l (λa Aa=>ET F m Aa r (λb z=>KT F m z op a b (λc B=>Q (.bool c) B) X) X) X):ET F m V (.cmp op l r) Q X:=by
 intro pe hc s hs;refine X3lppp pe hc.inv λZ Z Z hn hl hr=>?_;refine wpAny_Compare1 ((h _ hl s hs).out ?_) (Fk hn);intro U Aa Ac Ai Ad u;obtain⟨a,O,AO⟩:=u;refine(AO _ hr Ac Ad).out ?_;intro d z Aj y Y u;obtain⟨b,T,Bn⟩:=u;refine(Bn U d Aj Y (O.st y Y) T).out ?_;intro v B BI A0 AS u;obtain⟨c,rfl,I5⟩:=u;exact⟨B,(Ai.trans y).trans A0,AS,_,.bool c,I5⟩
theorem TT.cmp{op:CmpOp}{l r:E}{Q:Bool->Store->Prop}(h:ET F m V l (λa Aa=>ET F m Aa r (λb z=>KT F m z op a b Q X) X) X):TT F m V (.cmp op l r) Q X:=by
 intro pe hc s hs;refine X3lppp pe hc.inv λZ Z Z hn hl d=>?_;refine wpAny_isTrue_Compare1 ((h _ hl s hs).out ?_) (Fk hn);intro U Aa Ac Ai Ad u;obtain⟨a,O,AO⟩:=u;refine(AO _ d Ac Ad).out ?_;intro B z Aj y Y u;obtain⟨b,T,Bn⟩:=u;refine(Bn U B Aj Y (O.st y Y) T).out ?_;intro v Ar BI A0 AS u;obtain⟨c,rfl,I5⟩:=u;exact cA ⟨Ar,(Ai.trans y).trans A0,AS,I5⟩
end
end
section
set_option backward.match.sparseCases true
open PySem PyProof.Rows
variable {S:Sta}
section
variable {F:Fx S}{m:Nat->Option AV}{V:Store}{X:Value->af->Prop}{Q:AV->Store->Prop}
theorem ET.neg{x:E}{Q:AV->Store->Prop}(h:ET F m V x (λa Aa=>∃i,a=.int i/\Q (.int (-i)) Aa) X):ET F m V (.neg x) Q X:=by
 intro pe T s hs;refine X2lp pe T.inv λZ Z Y=>?_;refine wpAny_UnaryOp ((h _ Y s hs).out ?_);intro U Aa Ac O B u;obtain⟨a,y,i,rfl,z⟩:=u;refine X1l U y.inv λZ=>?_;obtain⟨V',st,r,d⟩:=Bi (Ac.toks+1) B (.int (-i) Ac.toks) z;exact neg_int ⟨V',O.trans st,r,d⟩
theorem ET.not{x:E}(h:ET F m V x (λa Aa=>∃b,a=.bool b/\Q (.bool (!b)) Aa) X):ET F m V (.not x) Q X:=by
 intro pe Y s hs;refine X2lp pe Y.inv λZ Z d=>?_;refine wpAny_UnaryOp ((h _ d s hs).out ?_);intro O Aa Ac T y u;obtain⟨a,U,b,rfl,z⟩:=u;obtain rfl:=U.inv;exact not_of (cA ⟨Aa,T,y,_,.bool _,z⟩)
theorem TT.not{x:E}{Q:Bool->Store->Prop}(h:TT F m V x (λb Aa=>Q (!b) Aa) X):TT F m V (.not x) Q X:=by
 intro pe d s hs;refine X2lp pe d.inv λZ Z u=>?_;exact wpAny_isTrue_Not ((h _ u s hs).out λZ V' Z st Y q=>⟨V',st,Y,q⟩)
noncomputable def Kh(e:E):Bool:=!(bV (kd e.st) 3)
noncomputable def HK(e:E):Bool:=Kh e.un
theorem I6{e:E}{pe:aj}{env:Env}{tb:List Nat}{sc:Nms}(d:HK e=true)(hc:CE tb sc pe e):isTrue pe env (eval pe env)=(do let v <- eval pe env;standAt pe.pos;holding [v] (truthy v)):=by
 replace hc:=hc.un;unfold HK at d;generalize e.un=e at hc d;replace hc:=hc.1;unfold Kh at d;rw[<- hc]at d
 cases pe with
 |UnaryOp op x p=>cases op<;>first|rfl|exact(aQ d).elim
 |_=>first|rfl|exact(aQ d).elim
theorem TT.val{e:E}{Q:Bool->Store->Prop}(y:HK e=true)(h:ET F m V e (λa Aa=>∃b,a=.bool b/\Q b Aa) X):TT F m V e Q X:=by
 intro pe d s hs;refine wpAny_isTrue_value ((h _ d s hs).out ?_) (I6 y d);intro Y Aa Ac T B u;obtain⟨a,U,b,rfl,z⟩:=u;obtain rfl:=U.inv;exact cA ⟨Aa,T,B,z⟩
def AndT(F:Fx S)(m:Nat->Option AV)(X:Value->af->Prop)(Q:Bool->Store->Prop):List E->Store->Prop
 |[],V=>Q true V
 |e::r,V=>TT F m V e (λb Aa=>if b then AndT F m X Q r Aa else Q false Aa) X
def OrT(F:Fx S)(m:Nat->Option AV)(X:Value->af->Prop)(Q:Bool->Store->Prop):List E->Store->Prop
 |[],V=>Q false V
 |e::r,V=>TT F m V e (λb Aa=>if b then Q true Aa else OrT F m X Q r Aa) X
theorem Ht{Q:Bool->Store->Prop}{es:List E}:∀{B:List aj}{V:Store}{s:af},CEs F.tb F.sc B es->AndT F m X Q es V->F.St m V s ->
  W F m V s (allTrue .And B F.env) (λb V' Z=>Q b V') X:=by
 induction es with
 |nil =>
  intro B V s d h hs;obtain rfl:=d.inv_nil;exact wpAny_allTrue_And_nil ⟨V,Step.refl _ _ _ _,hs,h⟩
 |cons e r O =>
  intro B V s d h hs;refine X2lppp B d.inv λZ Z Z U Y=>?_;refine wpAny_allTrue_And_cons ((h _ U s hs).out ?_)
  rintro b Aa Ac T y z
  cases b with|true=>exact(O Y z y).later T|false=>exact⟨Aa,T,y,z⟩
theorem JD{Q:Bool->Store->Prop}{es:List E}:∀{B:List aj}{V:Store}{s:af},CEs F.tb F.sc B es->OrT F m X Q es V->F.St m V s ->
  W F m V s (allTrue .Or B F.env) (λb V' Z=>Q b V') X:=by
 induction es with
 |nil =>
  intro B V s d h hs;obtain rfl:=d.inv_nil;exact wpAny_allTrue_Or_nil ⟨V,Step.refl _ _ _ _,hs,h⟩
 |cons e r O =>
  intro B V s d h hs;refine X2lppp B d.inv λZ Z Z U Y=>?_;refine wpAny_allTrue_Or_cons ((h _ U s hs).out ?_)
  rintro b Aa Ac T y z
  cases b with|false=>exact(O Y z y).later T|true=>exact⟨Aa,T,y,z⟩
theorem TT.and{es:List E}{Q:Bool->Store->Prop}(h:AndT F m X Q es V):TT F m V (.and es) Q X:=by
 intro pe d s hs;refine X2lp pe d.inv λZ Z u=>?_;exact wpAny_isTrue_BoolOp (Ht u h hs)
theorem TT.or{es:List E}{Q:Bool->Store->Prop}(h:OrT F m X Q es V):TT F m V (.or es) Q X:=by
 intro pe d s hs;refine X2lp pe d.inv λZ Z u=>?_;exact wpAny_isTrue_BoolOp (JD u h hs)
def AndV(F:Fx S)(m:Nat->Option AV)(X:Value->af->Prop)(Q:AV->Store->Prop):List E->Store->Prop
 |[],_=>False
 |[e],V=>ET F m V e Q X
 |e::r,V=>ET F m V e (λa Aa=>∃b,a=.bool b/\if b then AndV F m X Q r Aa else Q (.bool false) Aa) X
def OrV(F:Fx S)(m:Nat->Option AV)(X:Value->af->Prop)(Q:AV->Store->Prop):List E->Store->Prop
 |[],_=>False
 |[e],V=>ET F m V e Q X
 |e::r,V=>ET F m V e (λa Aa=>∃b,a=.bool b/\if b then Q (.bool true) Aa else OrV F m X Q r Aa) X
theorem Ds(pos:Pos)(op:BoolOp)(x y:Sem Value)(r:List (Sem Value)):boolOp pos op (x::y::r)=(do
  let v <- x
  standAt pos
  let t <- holding [v] (truthy v)
  match op,t with
  |.And,false|.Or,true=>pure v
  |_,_=>boolOp pos op (y::r)):=rfl
theorem JB{pos:Pos}{es:List E}:∀{B:List aj}{V:Store}{s:af},CEs F.tb F.sc B es->AndV F m X Q es V->F.St m V s ->
  VT F m V s (boolOp pos .And (evalEach B F.env)) Q X:=by
 induction es with
 |nil=>intro B V s d h hs;exact h.elim
 |cons e r ih =>
 intro B V s d h hs;refine X2lppp B d.inv λZ Z Z O y=>?_
 cases r with
 |nil=>obtain rfl:=y.inv_nil;exact h _ O s hs
 |cons e' r =>
  have u:=y;refine X2pp u.inv λZ Z Z0 Z=>?_;subst Z0;show VT F m V s (boolOp pos .And (eval _ F.env::eval _ F.env::evalEach _ F.env)) Q X;rw[Ds];refine ac ((h _ O s hs).out ?_);intro va Aa Ac T Y z;obtain⟨a,ra,b,rfl,U⟩:=z;obtain rfl:=ra.inv;refine ac (cX (ac (bI (cA ?_))))
  cases b with|true=>exact(ih y U Y).later T|false=>exact ah ⟨Aa,T,Y,_,.bool _,U⟩
theorem LU{pos:Pos}{es:List E}:∀{B:List aj}{V:Store}{s:af},CEs F.tb F.sc B es->OrV F m X Q es V->F.St m V s ->
  VT F m V s (boolOp pos .Or (evalEach B F.env)) Q X:=by
 induction es with
 |nil=>intro B V s d h hs;exact h.elim
 |cons e r ih =>
 intro B V s d h hs;refine X2lppp B d.inv λZ Z Z O y=>?_
 cases r with
 |nil=>obtain rfl:=y.inv_nil;exact h _ O s hs
 |cons e' r =>
  have u:=y;refine X2pp u.inv λZ Z Z0 Z=>?_;subst Z0;show VT F m V s (boolOp pos .Or (eval _ F.env::eval _ F.env::evalEach _ F.env)) Q X;rw[Ds];refine ac ((h _ O s hs).out ?_);intro va Aa Ac T Y z;obtain⟨a,ra,b,rfl,U⟩:=z;obtain rfl:=ra.inv;refine ac (cX (ac (bI (cA ?_))))
  cases b with|false=>exact(ih y U Y).later T|true=>exact ah ⟨Aa,T,Y,_,.bool _,U⟩
theorem ET.and{es:List E}(h:AndV F m X Q es V):ET F m V (.and es) Q X:=by
 intro pe d s hs;refine X2lp pe d.inv λZ Z u=>?_;exact JB u h hs
theorem ET.or{es:List E}(h:OrV F m X Q es V):ET F m V (.or es) Q X:=by
 intro pe d s hs;refine X2lp pe d.inv λZ Z u=>?_;exact LU u h hs
theorem ET.ite{c a b:E}(h:TT F m V c (λt Aa=>if t then ET F m Aa a Q X else ET F m Aa b Q X) X):ET F m V (.ite c a b) Q X:=by
 intro pe d s hs;have y:=d.inv;clear d;refine X4lppp pe y λZ Z Z Z d ha U=>?_;refine wpAny_IfExp ((h _ d s hs).out ?_)
 rintro t Aa Ac T O z
 cases t with|true=>exact(z _ ha Ac O).later T|false=>exact(z _ U Ac O).later T
theorem wp_rel{A:cD}{vs ks:List Value}{s:af}{Q:Unit->af->Prop}(h:Q () s):wpAny (model S.prog S.w) A (release vs ks) Q X s:=λΓ p _=>by
 rw[Sem.wp_release];exact h
theorem TT.cmp2{B Y:CmpOp}{a b c:E}{Q:Bool->Store->Prop}
  (h:ET F m V a (λx Aa=>ET F m Aa b (λy Ab=>KT F m Ab B x y (λt O=>if t then ET F m O c (λz Cj=>KT F m Cj Y y z Q X) X else Q false O) X) X) X) :
  TT F m V (.cmp2 B Y a b c) Q X:=by
 intro pe hc s hs;refine X4lppppp pe hc.inv λpa d pc pos hn1 hn2 ha hb hcc=>?_
 have he:isTrue (.Compare pa [B,Y] [d,pc] pos) F.env (eval (.Compare pa [B,Y] [d,pc] pos) F.env) =
  (do testChain pos (<- eval pa F.env) [B,Y] (markedEach [B,Y] [d,pc] [eval d F.env,eval pc F.env])):=rfl
 show wpAny _ _ (isTrue _ _ _) _ _ _;rw[he];have hme:markedEach [B,Y] [d,pc] [eval d F.env,eval pc F.env]=[eval d F.env,eval pc F.env]:=by
  have h2:=markedBehindIn_of_false (t:=eval pc F.env) (Fk (op:=Y) hn2);simp only[markedEach,h2]
 rw[hme];refine ac ((h _ ha s hs).out ?_);intro va Aa Ac Ai Ad u;obtain⟨x,rx,AO⟩:=u;refine ac (bI ((AO _ hb Ac Ad).out ?_));intro vb Ab Aj An Ah u;obtain⟨y,ry,Bn⟩:=u;refine ac (cX (ac (bI ((Bn va vb Aj Ah (rx.st An Ah) ry).out ?_))));intro v O BI A0 AS u;refine X1lp v u λt I5=>?_;refine ac (m:=release _ _) (wp_rel (ac (bI (cA ?_))))
 cases t with
 |false=>exact ah ⟨O,(Ai.trans An).trans A0,AS,I5⟩
 |true =>
  refine ac (bI ((I5 _ hcc BI AS).out ?_));intro vc Cj Bv BP Br u;obtain⟨z,rz,T⟩:=u;refine ac (cX (ac (m:=operate _ _) (wpAny_operating ((T vb vc Bv Br ((ry.st A0 AS).st BP Br) rz).out ?_))));intro v En FM Ep Fq u;refine X1lp v u λt U=>?_;exact bI (cA ⟨En,(((Ai.trans An).trans A0).trans BP).trans Ep,Fq,U⟩)
end
end
section
open PySem PyProof.Rows
variable {S:Sta}
section
variable {F:Fx S}{m:Nat->Option AV}{V:Store}{X:Value->af->Prop}{Q:AV->Store->Prop}
def IT(F:Fx S)(m:Nat->Option AV)(V:Store)(a k:AV)(Q:AV->Store->Prop)(X:Value->af->Prop):Prop :=
 ∀va vk s,F.St m V s->Rep S.cv s.heap (F.D V) a va->Rep S.cv s.heap (F.D V) k vk ->
  ∃T id,s.TypeIs va T/\typeLookup (.type T) "__getitem__"=pure (some (.builtin id))/\VT F m V s (getItem va vk) Q X
theorem C5{i:aj}{o k:Value}(h:BM i=true):subscripted i false o k=operate [o,k] (getItem o k):=by
 cases i<;>first|rfl|exact nF h
theorem ET.sub{o i:E}(h:ET F m V o (λa Aa=>ET F m Aa i (λk z=>IT F m z a k Q X) X) X):ET F m V (.sub o i) Q X:=by
 intro pe hc s hs;refine X3lppp pe hc.inv λZ Z Z hn ho hi=>?_;refine Subscript_ ((h _ ho s hs).out ?_);intro U Aa Ac Ai Ad u;obtain⟨a,d,AO⟩:=u;refine(AO _ hi Ac Ad).out ?_;intro B z Aj y Y u;obtain⟨k,O,Bn⟩:=u;refine X2ppp (Bn U B Aj Y (d.st y Y) O) λT id hT hl hg=>?_;exact tail_any hT hl (hg.later (Ai.trans y)) (C5 hn)
theorem RepL.get{cv:Nat->Value}{h:Heap}{D:Addr->Prop}{l:List AV}{vs:List Value}{k:Nat}{x:AV}(r:RepL cv h D l vs)(e:l[k]?=some x):∃v,vs[k]?=some v/\Rep cv h D x v:=by
 induction l generalizing vs k with
 |nil=>exact(Am gG e).elim
 |cons y l Y =>
  obtain⟨v,z,rfl,a,b⟩:=r.inv
  cases k with|zero=>exact⟨v,rfl,ae e▸a⟩|succ k=>exact Y (vs:=z) (k:=k) b e
theorem lt_63{i:Int}(h:i<1000000):i<2 ^ 63:=Int.lt_trans h (by decide)
theorem seqIx{i:Int}{n:Nat}(Y:0<=i)(U:i<n):seqIndex? i n=some i.toNat:=by
 unfold seqIndex?;have z:¬i<0:=by exact lin [] [i] (.l V0 K0) [.f K0 V0] rfl Y
 simp only[z,if_false];rw[if_pos (by simp;exact⟨lin [] [i] (.f K0 V0) [.f K0 V0] rfl Y,lin [n] [i] (.g V0 (.c V0)) [.g V0 (.c V0)] rfl U⟩)]
theorem IT.list{a:AV}{l:List AV}{i:Int}{x:AV}(ha:dl V a=some l)(h0:0<=i)(h1:i<1000000)(d:l[i.toNat]?=some x)(h:Q x V):IT F m V a (.int i) Q X:=by
 intro T B s hs u Y;refine X3lpp T (u.lst hs.inv ha) λad vs n e y=>?_;refine X1l B Y.inv λZ=>?_;refine X1pp (y.get d) λv z O=>?_;have U:s.heap.IsList ad vs.toArray:=⟨_,e,rfl,n,rfl⟩;exact⟨_,_,U.typeIs,slot_list_getitem.lookup,wpAny_getItem_list U h0 (lt_63 h1) (by simpa using z) (now hs O h)⟩
theorem IT.nums{l:List Int}{i x:Int}(h0:0<=i)(O:i<1000000)(u:l[i.toNat]?=some x)(h:Q (.int x) V):IT F m V (.nums l) (.int i) Q X:=by
 intro Y B s hs T y
 .refine X4lppppp Y T.inv λa o vs n e c f d r=>?_
  refine X1l B y.inv λZ=>?_;refine X1p (r.2 _ _ u) λt z=>?_;have U:s.heap.IsList a vs.toArray:=⟨o,e,c,n,f⟩;exact⟨_,_,U.typeIs,slot_list_getitem.lookup,wpAny_getItem_list U h0 (lt_63 O) (by simpa using z) (now hs (.int _ _) h)⟩
theorem IT.tup{l:List AV}{i:Int}{x:AV}(B:0<=i)(h1:i<1000000)(hx:l[i.toNat]?=some x)(h:Q x V):IT F m V (.tup l) (.int i) Q X:=by
 intro U u s hs y T
 .refine X3lppp U y.inv λad vs n e d r=>?_
  refine X1l u T.inv λZ=>?_;obtain⟨v,z,O⟩:=r.get hx;have ht:IsTup s.heap ad vs.toArray:=⟨_,e,rfl,n,rfl⟩;have Y:i.toNat<vs.length:=by
   rcases bL i.toNat vs.length with q|q
   .exact q
   .rw[aX q]at z;exact nS z
  have lo:-(2:Int) ^ 63<=i:=dh (by decide) B
  refine⟨_,_,⟨_,e,rfl⟩,PyProof.Rows.slot_tuple_getitem.lookup,getItem_tuple ht lo (lt_63 h1) (j:=i.toNat) ?_ (by simpa using z) (now hs O h)⟩
  rw[aF];exact seqIx B (lin [i.toNat,vs.length] [i] (.g V0 (.c V1)) [.c V0 V1,.f V0 (.c V0)] rfl Y (aI i))
theorem IT.str{x:Str}{i:Int}{c:Nat}(T:0<=i)(O:i<1000000)(u:x.cps[i.toNat]?=some c)(h:Q (.str ⟨#[c]⟩) V):IT F m V (.str x) (.int i) Q X:=by
 intro U B s hs z y;refine X1l U z.inv λZ=>?_;refine X1l B y.inv λZ=>?_;refine⟨_,_,typeIs_str _ _ _,PySem.F.slot_str_getitem.lookup,P.getItem_str (c:=c) ?_ ?_ (Bi _ hs (.str _ _) h)⟩
 .have:i<2 ^ 63:=lt_63 O
  simp only[Bool.or_eq_false_iff,decide_eq_false_iff_not];exact⟨fH.mpr (dh (by decide) T),gq.mpr this⟩
 .have Y:i.toNat<x.cps.size:=by
   rcases bL i.toNat x.cps.size with q|q
   .exact q
   .rw[Array.getElem?_eq_none q]at u;exact nS u
  rw[seqIx T (show i<(x.length:Int) from by have:x.length=x.cps.size:=rfl;exact lin [i.toNat,x.cps.size,x.length] [i] (.g V0 (.c V2)) [.c V0 V1,.D (-1) V2 V1,.f V0 (.c V0)] rfl Y this (aI i))]
  exact u
theorem IT.dict{a:AV}{l:List (Ag×AV)}{k:Ag}{x:AV}(ha:dd V a=some l)(hx:Cn l k=some x)(h:Q x V):IT F m V a (sp k) Q X:=by
 intro Y O s hs z T;refine X4lpp O T.spot λt tx ty n e d=>?_;refine X3lpppp Y (z.dct hs.inv ha) λad es n' u sm y U=>?_;refine X1pp (RepD.xs (S:=S) U) λxs B Z0=>?_;clear U;subst Z0;have q:=B.at_ k;rw[hx]at q
 cases hp:atKey xs (key k)with
 |none=>rw[hp]at q;exact q.elim
 |some p =>
  rw[hp]at q;exact⟨_,_,(Hn (S:=S) B y u).typeIs,PySem.slot_dict_getitem.lookup,wpAny_getItem_heap (CA F) (G7 e) (Hn B y u) hp (Bi _ hs q h)⟩
theorem optE{pe:Option aj}{e:E}{s:af}(h:ET F m V e Q X)(d:CO (λx=>CE F.tb F.sc x e) pe e)(hs:F.St m V s):VT F m V s (valueOrNone (evalOpt pe F.env)) Q X:=by
 rcases d.inv with⟨rfl,rfl⟩|⟨x,rfl,O⟩
 .exact h (.Constant .none 0 default) .none s hs
 .exact h _ O s hs
theorem RepL.take{cv:Nat->Value}{h:Heap}{D:Addr->Prop}{l:List AV}{vs:List Value}(k:Nat)(r:RepL cv h D l vs):RepL cv h D (l.take k) (vs.take k):=by
 induction l generalizing vs k with
 |nil=>rw[show vs=[] from r.inv,List.take_nil,List.take_nil];exact .nil
 |cons y l u =>
  obtain⟨v,z,rfl,a,b⟩:=r.inv
  cases k with|zero=>exact .nil|succ k=>exact .cons a (u k b)
theorem RepL.drop{cv:Nat->Value}{h:Heap}{D:Addr->Prop}{l:List AV}{vs:List Value}(k:Nat)(r:RepL cv h D l vs):RepL cv h D (l.drop k) (vs.drop k):=by
 induction l generalizing vs k with
 |nil=>rw[show vs=[] from r.inv,List.drop_nil,List.drop_nil];exact .nil
 |cons y l u =>
  cases k with|zero=>exact r|succ k=>refine X2lpp vs r.inv λv z a b=>?_;exact u k b
end
end
section
variable {S:Sta}
def Callable(S:Sta)(f:Value):Prop:=∀h,(∀b o,S.g.get? b=some o->h.get? b=some o)->∃k,(k=Keeper.frame\/k=Keeper.machine\/k=Keeper.boundFrame)/\Looks (model S.prog S.w) h (keeperOf f) k
theorem Callable.builtin(U:String):Callable S (.builtin U):=λZ Z=>⟨.machine,.inr (.inl rfl),Looks.of_pure rfl⟩
theorem Callable.type(U:String):Callable S (.type U):=λZ Z=>⟨.machine,.inr (.inl rfl),Looks.of_pure rfl⟩
theorem Callable.own{f:Value}(h:keepIn S.K f=true):Callable S f:=λZ k=>keeps_K h _ (S.X.keeps k)
section
variable {F:Fx S}{m:Nat->Option AV}{V:Store}{X:Value->af->Prop}{Q:AV->Store->Prop}
def CT(F:Fx S)(m:Nat->Option AV)(V:Store)(f:Value)(avs:List AV)(Q:AV->Store->Prop)(X:Value->af->Prop):Prop :=
 ∀vals s,F.St m V s->RepL S.cv s.heap (F.D V) avs vals->VT F m V s (call f vals) Q X
theorem GU{pos:Pos}{B:List aj}{es:List E}(d:CEs F.tb F.sc B es):(backTo pos (fh B F.env)).any (·.1)=false:=by
 induction es generalizing B with
 |nil=>obtain rfl:=d.inv_nil;rfl
 |cons e es y=>refine X2lppp B d.inv λZ Z Y Z O=>?_;rw[AQ Y];exact y O
theorem CX{pos:Pos}{f:Value}{first:List Value}{B:List aj}{e:E}{es:List E}{s:af}{P:List AV->Store->Prop}{z:Value->af->Prop}(d:CEs F.tb F.sc B (e::es))(hk:Callable S f)(h:EsT F m V (e::es) P X)(hs:F.St m V s)
  (hq:∀U u V' s',Step F.P F.O V s V' s'->F.St m V' s'->RepL S.cv s'.heap (F.D V') u U->P u V'->wpAny (model S.prog S.w) F.A (call f (first++U)) z X s') :
  wpAny (model S.prog S.w) F.A (callWith pos f first (backTo pos (fh B F.env)) []) z X s:=by
 refine callWith_of (P:=λh=>∀b o,S.g.get? b=some o->h.get? b=some o) (by rw[GU d];rfl) hk ?_
 have h':=h _ pos d s hs;refine X2pppp d.inv λZ Z Z0 T he hr=>?_;clear d;subst Z0;rw[AQ T]at h' ⊢;refine Calls.evalArgs_plain (W.out h' ?_);intro U V' s' st y Y;obtain⟨u,r,p⟩:=Y;exact⟨y.inv.keep,hq U u V' s' st y r p⟩
theorem EN{pos:Pos}{f:Value}{first:List Value}{s:af}{z:Value->af->Prop}(B:Callable S f)(hs:F.St m V s)(hq:wpAny (model S.prog S.w) F.A (call f (first++[])) z X s) :
  wpAny (model S.prog S.w) F.A (callWith pos f first (backTo pos (fh [] F.env)) []) z X s :=
 callWith_of (P:=λh=>∀b o,S.g.get? b=some o->h.get? b=some o) rfl B (evalArgs_nil3 ⟨hs.inv.keep,hq⟩)
theorem ET.callg{i:Nat}{B:Value}{e:E}{es:List E}(d:Glob S i B)(y:Callable S B)(h:EsT F m V (e::es) (λu Aa=>CT F m Aa B u Q X) X):ET F m V (.call (.g i) (e::es)) Q X:=by
 intro pe Y s hs;refine X4lppp pe Y.inv λZ Z Z Z Z z ha=>?_;refine Call_ (Dj z d hs (CX ha y h hs ?_));intro U u V' s' st T r p;exact(p U s' T r).later st
theorem RepL.one{cv:Nat->Value}{h:Heap}{D:Addr->Prop}{a:AV}{vs:List Value}(r:RepL cv h D [a] vs):∃v,vs=[v]/\Rep cv h D a v:=by
 refine X2lpp vs r.inv λv z B d=>?_;obtain rfl:=d.inv;exact⟨_,rfl,B⟩
theorem RepL.two{cv:Nat->Value}{h:Heap}{D:Addr->Prop}{a b:AV}{vs:List Value}(r:RepL cv h D [a,b] vs):∃v u,vs=[v,u]/\Rep cv h D a v/\Rep cv h D b u:=by
 refine X2lpp vs r.inv λv z B d=>?_;refine X1lp z d.one λu O=>?_;exact⟨_,_,rfl,B,O⟩
theorem Gx{n:Nat}(h:n<=big):¬(n:Int) >= 2 ^ 63:=by
 have:(n:Int)<=1000000:=by unfold big at h;exact lin [n] [] (.f (.c V0) Ay) [.b V0 Ay] rfl h
 exact gq.mpr (eX this (by decide))
theorem CT.lenList{a:AV}{l:List AV}(ha:dl V a=some l)(hz:l.length<=big)(h:Q (.int l.length) V):CT F m V (.builtin "len") [a] Q X:=by
 intro U s hs r;refine X1lp U r.one λv u=>?_;refine X3lpp v (u.lst hs.inv ha) λad vs n e T=>?_;have d:s.heap.IsList ad vs.toArray:=⟨_,e,rfl,n,rfl⟩;refine Calls.call_len_list d (by rw[aF,T.length];exact gq.mp (Gx hz)) ?_
 rw[aF,T.length];exact Bi _ hs (.int _ _) h
theorem CT.lenInts{l:List Int}(hz:l.length<=big)(h:Q (.int l.length) V):CT F m V (.builtin "len") [.nums l] Q X:=by
 intro U s hs r;refine X1lp U r.one λv y=>?_
 .refine X4lppppp v y.inv λa o vs n e c f d z=>?_
  have u:s.heap.IsList a vs.toArray:=⟨o,e,c,n,f⟩;refine Calls.call_len_list u (by rw[aF,z.1];exact gq.mp (Gx hz)) ?_
  rw[aF,z.1];exact Bi _ hs (.int _ _) h
theorem CT.lenStr{x:Str}(hz:x.length<=big)(h:Q (.int x.length) V):CT F m V (.builtin "len") [.str x] Q X:=by
 intro U s hs r;refine X1lp U r.one λv z=>?_;refine X1l v z.inv λZ=>?_;exact P.len_str (Gx hz) (Bi _ hs (.int _ _) h)
end
end
section
variable {S:Sta}
abbrev Vars:=Nat->Option AV
noncomputable def Vars.set(m:Vars)(i:Nat)(v:AV):Vars:=λj=>if j=i then some v else m j
set_option genCtorIdx false in
inductive Fl where
 |next
 |ret (v:AV)
noncomputable abbrev Fl.ctorIdx(x:Fl):Nat:=@Fl.casesOn (λ_=>Nat) x 0 (λ_=>1)
def FlR(cv:Nat->Value)(h:Heap)(D:Addr->Prop):Flow->Fl->Prop
 |.next,.next=>True
 |.ret v,.ret a=>Rep cv h D a v
 |_,_=>False
inductive PS(F:Fx S)(V:Store)(s:af)(K:Fl->Vars->Store->Prop)(f:Flow)(s':af):Prop
 |mk (fl:Fl)(m':Vars)(V':Store)(st:Step F.P F.O V s V' s')(h:F.St m' V' s')(r:FlR S.cv s'.heap (F.D V') f fl)(k:K fl m' V'):PS F V s K f s'
inductive PP(F:Fx S)(V:Store)(s:af)(K:Vars->Store->Prop)(s':af):Prop
 |mk (m':Vars)(V':Store)(st:Step F.P F.O V s V' s')(h:F.St m' V' s')(k:K m' V'):PP F V s K s'
def WS(F:Fx S)(V:Store)(s:af)(t:Sem Flow)(K:Fl->Vars->Store->Prop)(X:Value->af->Prop):Prop :=
 wpAny (model S.prog S.w) F.A t (PS F V s K) X s
def ST(F:Fx S)(m:Vars)(V:Store)(st:Internal.S)(K:Fl->Vars->Store->Prop)(X:Value->af->Prop):Prop :=
 ∀ps,CS F.tb F.sc ps st->∀s,F.St m V s->WS F V s (exec ps F.env) K X
def SsT(F:Fx S)(m:Vars)(V:Store)(ss:List Internal.S)(K:Fl->Vars->Store->Prop)(X:Value->af->Prop):Prop :=
 ∀ps,CSs F.tb F.sc ps ss->∀s,F.St m V s->WS F V s (execs ps F.env) K X
section
variable {F:Fx S}{m:Vars}{V:Store}{X:Value->af->Prop}{K K':Fl->Vars->Store->Prop}
theorem WS.mono{s:af}{t:Sem Flow}(h:WS F V s t K X)(k:∀f m V,K f m V->K' f m V):WS F V s t K' X :=
 aJ h (λ_ _ ⟨fl,m',V',st,h1,h2,h3⟩=>⟨fl,m',V',st,h1,h2,k _ _ _ h3⟩) λZ Z e=>e
theorem WS.later{s:af}{t:Sem Flow}{AC:Store}{Ak:af}(h:WS F V s t K X)(st:Step F.P F.O AC Ak V s) :
  wpAny (model S.prog S.w) F.A t (PS F AC Ak K) X s :=
 aJ h (λ_ _ ⟨fl,m',V',st',h1,h2,h3⟩=>⟨fl,m',V',st.trans st',h1,h2,h3⟩) λZ Z e=>e
theorem ST.mono{st:Internal.S}(h:ST F m V st K X)(k:∀f m V,K f m V->K' f m V):ST F m V st K' X:=λps d s hs=>(h ps d s hs).mono k
theorem SsT.mono{O:List Internal.S}(h:SsT F m V O K X)(k:∀f m V,K f m V->K' f m V):SsT F m V O K' X:=λps d s hs=>(h ps d s hs).mono k
theorem SsT.weak{U:List Internal.S}{m':Vars}{V':Store}(h:SsT F m' V' U K X)(z:∀i av,m' i=some av->m i=some av)(O:∀a o,V' a=some o->V a=some o):SsT F m V U K X:=by
 intro ps d s hs;refine Ao ((hs.weak z).drop O) λY st=>?_;exact(h ps d s Y).later st.any
set_option tactic.hygienic true in
theorem SsT.nil(h:K .next m V):SsT F m V [] K X:=by
 intro ps d s hs;obtain rfl:=d.inv_nil;exact f5 ⟨.next,m,V,Step.refl _ _ _ _,hs,trivial,h⟩
theorem SsT.cons{st:Internal.S}{r:List Internal.S}(h:ST F m V st (λfl Aq Aa=>match fl with|.next=>SsT F Aq Aa r K X|.ret v=>K (.ret v) Aq Aa) X):SsT F m V (st::r) K X:=by
 intro ps d s hs;refine X2lpp ps d.inv λZ Z B U=>?_;refine wpAny_execs_cons (aJ (h _ B s hs) ?_ λZ Z e=>e);intro f Ac O;obtain⟨fl,Aq,Aa,z,y,T,q⟩:=O
 cases fl with
 |next =>
  cases f with
  |next=>exact(q _ U Ac y).later z
  |_=>exact T.elim
 |ret v =>
  cases f with|ret u=>exact⟨.ret v,Aq,Aa,z,y,T,q⟩|_=>exact T.elim
set_option tactic.hygienic true in
theorem ST.pass(h:K .next m V):ST F m V .pass K X:=by
 intro ps d s hs;refine X1l ps d.inv λZ=>?_;exact wpAny_Pass ⟨.next,m,V,Step.refl _ _ _ _,hs,trivial,h⟩
theorem ST.ret{e:E}(h:ET F m V e (λa Aa=>K (.ret a) m Aa) X):ST F m V (.ret e) K X:=by
 intro ps d s hs;refine X2lp ps d.inv λZ Z O=>?_;refine wpAny_Return_some ((h _ O s hs).out ?_);intro v Aa Ac T y u;obtain⟨a,U,q⟩:=u;exact⟨.ret a,m,Aa,T,y,U,q⟩
theorem ST.ite{c:E}{a b:List Internal.S}(h:TT F m V c (λt Aa=>if t then SsT F m Aa a K X else SsT F m Aa b K X) X):ST F m V (.ite c a b) K X:=by
 intro ps d s hs;have y:=d.inv;clear d;refine X4lppp ps y λZ Z Z Z d ha U=>?_;refine wpAny_If ((h _ d s hs).out ?_)
 rintro t Aa Ac T O z
 cases t with|true=>exact(z _ ha Ac O).later T|false=>exact(z _ U Ac O).later T
theorem St.own_turn{tb:List Nat}{env:Env}{N P:Addr->Prop}{b:Store×af}{m m':Vars}{s:af}{L:Addr}{h':Heap}{tk:Nat}(hs:Internal.St S tb env N P b m V s)(Y:Own env L)
  (B:∀c o,c≠L->s.heap.get? c=some o->h'.get? c=some o) (hL:∃o,h'.get? L=some o) (hl:Loc S.cv S.g tb env m' N V h') :
  Step P (Own env) V s V { s with heap:=h',toks:=tk }/\Internal.St S tb env N P b m' V { s with heap:=h',toks:=tk }:=by
 have there:∀c o,s.heap.get? c=some o->∃O,h'.get? c=some O:=λc o e=>by
  by_cases q:c=L
  .clear Y B;subst q;exact hL
  .exact⟨o,B c o q e⟩
 have st:Step P (Own env) V s V { s with heap:=h',toks:=tk }:=Step.of_but (λc o Z n e=>B c o (λq=>n (q▸Y)) e) (λZ h=>.inl h) there
 have own:=hs.loc;obtain⟨_,_,_,_,o,_,_,_⟩:=own;have e0:Ext (DN N V) s.heap h':=Ext.of_but λc u d e=>B c u (λq=>d (.inr (q▸hs.own L Y))) e;refine⟨st,⟨λc u e=>B c u (λq=>?_) (hs.inv.keep c u e),hs.inv.gens,hs.inv.drawn,hs.inv.os,hs.inv.σg,hs.inv.σN,λc h=>?_,λc u e=>?_⟩,hl,hs.frm.out st hs.new,hs.pN,hs.new,hs.own,hs.gb⟩
 .clear B hL;subst q;rw[(o c Y).2]at e;exact nS e
 .refine X1pp (hs.inv.Nin c h) λU e f=>?_
  by_cases q:c=L
  .obtain⟨mc,cm,n,cc,_⟩:=hl
   clear B hL;subst q
   rcases Y with rfl|⟨y,hy⟩
   .refine X3ppp n λO Z Z T d' Z=>?_;exact⟨O,T,λvs z=>by rw[d']at z;exact nDf rfl z⟩
   .refine X1pp (cc y _ hy) λO T d'=>?_;exact⟨O,T,λvs z=>by rw[d']at z;exact nDf rfl z⟩
  .exact⟨U,B c U q e,f⟩
 .exact(hs.inv.rep c u e).ext e0 (λZ h=>.inl h) λU T=>B c U (λq=>(o L Y).1 (by rw[<- q];unfold Dom;rw[e];simp)) T
theorem BJ{i:Nat}{x:Str}{av:AV}{v:Value}{s:af}{Q':Unit->af->Prop}(hf:F.sc.lookup x≠some .free)(hx:IsV F.tb F.sc x i)(hs:F.St m V s)(r:Rep S.cv s.heap (F.D V) av v)
  (h:∀s',Step F.P F.O V s V s'->F.St (Vars.set m i av) V s'->Q' () s'):wpAny (model S.prog S.w) F.A (storeName F.env x v) Q' X s:=by
 obtain⟨mc,cm,n,c,o,ap,cl,rr⟩:=hs.loc;have kd:∀y,F.env.kindOf y=F.sc.lookup y:=λZ=>rfl;have u:∀{y:Str}{j:Nat}{bv:AV},ixS F.tb y=some j->(Vars.set m i av) j=some bv->(y=x/\bv=av)\/(y≠x/\m j=some bv):=by
  intro y j bv hj hm;unfold Vars.set at hm
  by_cases q:j=i
  .clear h;subst q
   rw[if_pos rfl]at hm;exact .inl ⟨BN hj hx.ix,(ae hm).symm⟩
  .rw[if_neg q]at hm
   refine .inr ⟨λe=>?_,hm⟩;clear hf;subst e;rw[hx.ix]at hj;exact q (ae hj).symm
 rcases hx.kind with q|q|q
 .refine wpAny_storeName_local ((kd x).trans q) n (λh' hn hsb=>?_) (by rw[F.fk];rfl)
  have hk:∀U oc,U≠F.env.locals->s.heap.get? U=some oc->h'.get? U=some oc:=λU oc ne e=>hsb.extBut U oc ne e;have hL:∃oo,h'.get? F.env.locals=some oo:=by refine X3pp hn λoo Z Z e Z=>?_;exact⟨oo,e⟩
  have e0:Ext (F.D V) s.heap h':=Ext.of_but λU oc d e=>hk U oc (λq=>d (.inr (q▸hs.own _ (.inl rfl)))) e;have Y:Loc S.cv S.g F.tb F.env (Vars.set m i av) F.N V h':=by
   refine⟨_,cm,hn,λy U hy=>?_,o,ap,cl,λy j bv hj hm=>?_⟩
   .refine X1pp (c y U hy) λob e hd=>?_
    exact⟨ob,hk U ob (cl y U hy) e,hd⟩
   .rcases u hj hm with⟨rfl,rfl⟩|⟨ne,hm'⟩
    .rw[kd,q]
     exact⟨v,if_pos rfl,r.ext e0 λZ h=>.inl h⟩
    .exact LocAt.map (rr y j bv hj hm') (λh2=>h2.ext e0 λZ h=>.inl h) (λZ B=>(if_neg ne).trans B) (λZ B=>B)
  refine Ao (St.own_turn (tk:=s.toks+1) hs (.inl rfl) hk hL Y) λst B=>?_;exact h _ st B
 .have hc:=F.fc x ((kd x).trans q)
  .refine X1p hc λU T=>?_
   refine wpAny_storeName_cell F.fk ((kd x).trans q) T (c x U T) (λh' hv hsb=>?_);have hk:∀d od,d≠U->s.heap.get? d=some od->h'.get? d=some od:=λd od ne e=>hsb.extBut d od ne e;have hL:∃oo,h'.get? U=some oo:=by refine X1pp hv λoo e Z=>?_;exact⟨oo,e⟩
   have e0:Ext (F.D V) s.heap h':=Ext.of_but λd od dd e=>hk d od (λq=>dd (.inr (q▸hs.own _ (.inr ⟨x,T⟩)))) e;have Y:Loc S.cv S.g F.tb F.env (Vars.set m i av) F.N V h':=by
    refine⟨mc,λy=>if y=x then some v else cm y,n.sameBut hsb (d0 (cl x U T)),λy d hy=>?_,o,ap,cl,λy j bv hj hm=>?_⟩
    .by_cases e:y=x
     .clear hf hx u q hc;subst e;rw[T]at hy;obtain rfl:=ae hy;simp only[if_true];exact hv
     .simp only[if_neg e]
      refine X1pp (c y d hy) λob eo hd=>?_;exact⟨ob,hk d ob (λz=>e (ap y x d hy (z▸T))) eo,hd⟩
    .rcases u hj hm with⟨rfl,rfl⟩|⟨ne,hm'⟩
     .rw[kd,q]
      exact⟨v,U,T,if_pos rfl,r.ext e0 λZ h=>.inl h⟩
     .exact LocAt.map (rr y j bv hj hm') (λh2=>h2.ext e0 λZ h=>.inl h) (λZ B=>B) (λZ B=>(if_neg ne).trans B)
   refine Ao (St.own_turn (tk:=s.toks) hs (.inr ⟨x,T⟩) hk hL Y) λst B=>?_;exact h _ st B
 .exact absurd q hf
def PT(F:Fx S)(m:Vars)(V:Store)(p:Pat)(a:AV)(K:Vars->Store->Prop)(X:Value->af->Prop):Prop :=
 ∀pe,CP F.tb F.sc pe p->∀v s,F.St m V s->Rep S.cv s.heap (F.D V) a v ->
  wpAny (model S.prog S.w) F.A (assign pe F.env v) (λZ=>PP F V s K) X s
theorem PT.v{i:Nat}{a:AV}{K:Vars->Store->Prop}(h:K (Vars.set m i a) V):PT F m V (.v i) a K X:=by
 intro pe d v s hs r;refine X2lpp pe d.inv λZ Z T u=>?_;exact wpAny_assign_Name (BJ T u hs r λs' st Y=>⟨_,V,st,Y,h⟩)
noncomputable def DA(e:E):Bool:=!(bV (kd e.st) 1)
noncomputable def Kr(e:E):Bool:=!(bV (kd e.st) 2)
noncomputable def AK(e:E):Bool:=DA e.un
noncomputable def FZ(e:E):Bool:=Kr e.un
theorem Ca{sc:Nms}{pe t:aj}{e:E}{u:Nat}{env:Env}{tb:List Nat}(hc:CE tb sc pe e)(h:AK e=true):swapsWith pe (some t) u env=pure false:=by
 replace hc:=hc.un;unfold AK at h;generalize e.un=e at hc h;replace hc:=hc.1;unfold DA at h;rw[<- hc]at h
 cases pe<;>first|rfl|exact(aQ h).elim
theorem ST.assign{i:Nat}{e:E}(T:AK e=true)(h:ET F m V e (λa Aa=>K .next (Vars.set m i a) Aa) X):ST F m V (.assign (.v i) e) K X:=by
 intro ps B s hs;refine X3lpp ps B.inv λZ Z Z d O=>?_;refine X2ppp d.inv λZ Z y Y z=>?_;subst y;refine wpAny_Assign_Name ((h _ O s hs).out ?_) (Ca O T);intro v Aa Ac Ai Ad u;obtain⟨a,U,q⟩:=u;exact BJ Y z Ad U λAj An Ah=>⟨.next,_,Aa,Ai.trans An,Ah,trivial,q⟩
theorem IO{sc:Nms}{pe:aj}{e:E}{u:Nat}{env:Env}{tb:List Nat}(hc:CE tb sc pe e)(h:AK e=true):swapsWith pe none u env=pure false:=by
 replace hc:=hc.un;unfold AK at h;generalize e.un=e at hc h;replace hc:=hc.1;unfold DA at h;rw[<- hc]at h
 cases pe<;>first|rfl|exact(aQ h).elim
set_option tactic.hygienic true in
theorem let_go{pe:aj}{pos:Pos}{v:Value}{A:cD}{s:af}{z:Flow->af->Prop}(h:z .next s):wpAny (model S.prog S.w) A (dropValue pe pos v) z X s:=by
 unfold dropValue
 split
 .exact ah h
 .refine ac (cX (ac (wpAny_runValue (codeAny_builtin (b:=eT.«proto.let_go») (entryFor_of_tree (by kernel_rfl)) ?_))))
  exact ah (ah h)
 .exact ah h
set_option tactic.hygienic true in
theorem ST.expr{e:E}(T:AK e=true)(h:ET F m V e (λZ Aa=>K .next m Aa) X):ST F m V (.expr e) K X:=by
 intro ps d s hs;refine X2lp ps d.inv λpe pos O=>?_;have hi:interactive F.env=false:=by unfold interactive;rw[F.fk];rfl
 show wpAny _ _ (exec (.Expr pe pos) F.env) _ _ _;rw[exec_Expr (hi:=hi) (hs:=IO O T)];refine ac (cX (ac ((h _ O s hs).out ?_)));intro v Aa Ac y B u;obtain⟨a,U,q⟩:=u;exact let_go ⟨.next,m,Aa,y,B,trivial,q⟩
end
end
section
variable {S:Sta}
structure Ap where
 tb:List Nat
 n:Nat
 body:List Internal.S
structure FnEx(S:Sta)(f:Addr)(c:Ap)(o:Obj)(fd:FuncData)(body:List Stmt)(names:List Str):Prop where
 ho:S.g.get? f=some o
 hd:o.data=.func fd
 hb:fd.body=.stmts body
 hcl:fd.closure=[]
 hg:fd.globals=bZ
 hbl:fd.builtins=builtinsNs
 hk:fd.scope.kind=.function
 hco:fd.scope.isCoroutine=false
 hgen:fd.scope.isGenerator=false
 hcd:S.g.CodeRec fd.code fd.qualname
 hnl:names.length=c.n
 hbind:∀vals:List Value,vals.length=c.n->bindArgs fd ⟨vals,[]⟩=pure (names.zip vals)
 hnm:∀j x,names[j]?=some x->ixS c.tb x=some j/\(fd.scope.names.lookup x=some .local\/fd.scope.names.lookup x=some .cell)
 hnd:((c5 0 fd.scope.names []).map (·.1)).Nodup
 hcs:CSs c.tb fd.scope.names body c.body
structure IsFn(S:Sta)(f:Addr)(c:Ap):Prop where
 ex:∃(o:Obj)(fd:FuncData)(body:List Stmt)(names:List Str),FnEx S f c o fd body names
def View(S:Sta)(N:Addr->Prop)(v:AV)(V:Store)(v':AV)(V':Store):Prop :=
 ∀s u,Inv S N V s->Rep S.cv s.heap (DN N V) v u->Inv S N V' s/\Step noO noO V s V' s/\Rep S.cv s.heap (DN N V') v' u
abbrev KX:=Nat->Store->Prop
abbrev noX:KX:=λZ Z=>False
def GB(l:List Env)(b:Addr):Prop:=∃e∈l,e.frame=some b
structure Off(S:Sta)(A:cD)(e:Addr)(c:Nat)(Ak s':af):Prop where
 fly:∃base l,A.frames=some l/\FlyY base l e (S.cv c) .none s'.heap/\∀b o,Ak.heap.get? b=some o->¬GB l b->base.get? b=some o
 up:Ak.heap.UpToSlots s'.heap
 rest:s'.gens=Ak.gens/\s'.drawn=Ak.drawn/\s'.os=Ak.os
noncomputable def Sta.grow(S:Sta)(g':Heap)(k:∀b o,S.g.get? b=some o->g'.get? b=some o)(x:Addr)(hx:∃o vs,g'.get? x=some o/\o.data=.fields vs/\vs[2]?=some bo):Sta :=
 { S with g:=g',X:=S.X.keeps k,ng:=S.ng.keeps k,nb:=S.nb.keeps k,lim:=S.lim.keeps k,sm:=(by refine X1p S.sm λo e=>?_;exact⟨o,k _ _ e⟩),hx:=some x,hxo:=λy e=>by obtain rfl:=ae e;exact hx }
inductive PCv(S:Sta)(N:Addr->Prop)(A:cD)(V:Store)(s:af)(Q:AV->Store->Prop)(v:Value)(s':af):Prop
 |mk (av:AV)(V':Store)(st:Step (Frm A) noO V s V' s')(i:Inv S N V' s')(r:Rep S.cv s'.heap (DN N V') av v)(q:Q av V'):PCv S N A V s Q v s'
inductive PCe(S:Sta)(N:Addr->Prop)(A:cD)(V:Store)(s:af)(X:KX)(e:Value)(s':af):Prop
 |mk (ea:Addr)(c:Nat)(V':Store)(Ak:af)(he:e=.ref ea)(o:Off S A ea c Ak s')(st:Step (Frm A) noO V s V' Ak)(i:Inv S N V' Ak)(x:X c V'):PCe S N A V s X e s'
def CallT(S:Sta)(k:Nat)(f:Value)(avs:List AV)(V:Store)(Q:AV->Store->Prop)(X:KX):Prop :=
 ∀(N:Addr->Prop)(A:cD) vals s,Room S N k A->Inv S N V s->RepL S.cv s.heap (DN N V) avs vals ->
  codeAny (model S.prog S.w) A (.call f ⟨vals,[]⟩) (λr s'=>match r with
   |.ok (.ret v)=>PCv S N A V s Q v s'
   |.ok _=>False
   |.error e=>PCe S N A V s X e s') s
theorem CallT.mono{k:Nat}{f:Value}{u:List AV}{V:Store}{Q y:AV->Store->Prop}{X O:KX}(h:CallT S k f u V Q X)(q:∀a V,Q a V->y a V)(x:∀c V,X c V->O c V):CallT S k f u V y O :=
 λN A U s T hi B=>dG (h N A U s T hi B) λr s' z=>by
  cases r with
  |error e=>obtain⟨ea,c,V',Ak,h1,h2,h3,h4,Y⟩:=z;exact⟨ea,c,V',Ak,h1,h2,h3,h4,x _ _ Y⟩
  |ok fl =>
   cases fl with
   |ret v=>obtain⟨av,V',a,b,c,d⟩:=z;exact⟨av,V',a,b,c,q _ _ d⟩
   |_=>exact z
inductive XF(F:Fx S)(m:Nat->Option AV)(X:KX)(e:Value)(s':af):Prop
 |mk (ea:Addr)(c:Nat)(V':Store)(Ak:af)(he:e=.ref ea)(o:Off S F.A ea c Ak s')(h:F.St m V' Ak)(x:X c V'):XF F m X e s'
inductive XR(F:Fx S)(X:KX)(e:Value)(s':af):Prop
 |mk (ea:Addr) (c:Nat) (V':Store) (Ak:af) (m':Vars) (he:e=.ref ea) (h:F.St m' V' Ak) (x:X c V')
  (o:Off S F.A ea c Ak s'\/∃args,Heap.MadeExcOf Ak.heap s'.heap ea (S.cv c) args/\s'.gens=Ak.gens/\s'.drawn=Ak.drawn/\s'.os=Ak.os):XR F X e s'
theorem XF.up{F:Fx S}{m:Nat->Option AV}{X:KX}{e:Value}{s':af}(h:XF F m X e s'):XR F X e s':=by
 obtain⟨T,c,V',Ak,O,z,Y,y⟩:=h;exact⟨T,c,V',Ak,m,O,Y,y,.inl z⟩
section
variable {F:Fx S}{m:Nat->Option AV}{V:Store}{Q:AV->Store->Prop}
theorem CT.own{k:Nat}{f:Value}{u:List AV}{X:KX}(h:CallT S k f u V Q X)(y:k<=F.k):CT F m V f u Q (XF F m X):=by
 intro U s hs O;have room:Room S F.N k F.A:=⟨F.room.hh,F.room.fr,by have:=F.room.dp;exact lin [k,F.k,F.A.depth] [] (.c (.A V2 (.M 2 V0)) L9) [.B 2 V0 V1,.c (.A V2 (.M 2 V1)) L9] rfl y this,by have:=F.room.un;exact lin [k,F.k,F.A.units] [] (.c (.A V2 (.M 20 V0)) B7) [.B 20 V0 V1,.c (.A V2 (.M 20 V1)) B7] rfl y this⟩
 refine wpAny_call (dG (h F.N F.A U s room hs.inv O) λr s' x=>?_)
 cases r with
 |error e =>
  obtain⟨ea,c,V',Ak,h1,z,Y,d,T⟩:=x;exact⟨ea,c,V',Ak,h1,z,hs.to Y d (λZ h=>h),T⟩
 |ok fl =>
  cases fl with
  |ret v =>
   obtain⟨av,V',st,i,r,q⟩:=x;exact⟨V',st.mono (λZ h=>h.elim),hs.to st i (λZ h=>h),av,r,q⟩
  |_=>exact x
end
structure Top(F:Fx S):Prop where
 top:∃l,F.A.frames=some (F.env::l)
 frame:F.env.frame=some F.env.locals
theorem Dm{h base:Heap}:∀{l:List Env},(∀e∈l,e.scope.kind≠.module/\∃L o,e.frame=some L/\base.get? L=aa/\h.get? L=some o/\∀vs,o.data≠.fields vs)->h.FunFrames base l
 |[],_=>trivial
 |e::l,k=>⟨(k e (.head _)).1,(k e (.head _)).2,Dm λe O=>k e (.tail _ O)⟩
theorem Step.hide{P:Addr->Prop}{V V':Store}{s Ak:af}{L:Addr}(x:Step P noO V s V' Ak)(z:s.heap.get? L=aa):Step P noO V s V' { Ak with heap:=Ak.heap.hide L }:=by
 have ne:∀{b o},s.heap.get? b=some o->b≠L:=λe q=>by rw[q,z]at e;exact nS e
 have y:∀{b o},b≠L->Ak.heap.get? b=some o->(Ak.heap.hide L).get? b=some o:=λn e=>(Heap.hide_ne _ n).trans e;refine⟨⟨λb o e d=>y (ne e) (x.ext.obj b o e d)⟩,λb o e p U d=>?_,x.dom,λb o e=>?_⟩
 .refine X1pp (x.frm b o e p U d) λu O r=>?_;exact⟨u,y (ne e) O,r⟩
 .refine X1p (x.there b o e) λu O=>?_;exact⟨u,y (ne e) O⟩
theorem Inv.hide{N T:Addr->Prop}{V:Store}{Ak:af}{L:Addr}(x:Inv S T V Ak)(hN:∀a,N a->T a)(u:T L)(B:¬N L)(Y:S.g.get? L=aa):Inv S N V { Ak with heap:=Ak.heap.hide L }:=by
 have y:∀{b o},b≠L->Ak.heap.get? b=some o->(Ak.heap.hide L).get? b=some o:=λn e=>(Heap.hide_ne _ n).trans e;refine⟨λb o e=>y (λq=>by rw[q,Y]at e;exact nS e) (x.keep b o e),x.gens,x.drawn,x.os,x.σg,λa d q=>x.σN a d (hN a q),λa q=>?_,λa o e=>?_⟩
 .refine X1pp (x.Nin a (hN a q)) λo e nf=>?_
  exact⟨o,y (λz=>B (z▸q)) e,nf⟩
 .exact(x.rep a o e).ext (⟨λb O eb d=>y (λz=>d (.inr (z▸u))) eb⟩:Ext (DN T V) Ak.heap (Ak.heap.hide L)) (λb q=>.inl (q.imp id (hN b))) λO U=>y (λz=>x.σN a (by unfold Dom;rw[e];simp) (z▸u)) U
theorem KJ{F:Fx S}{A:cD}{N:Addr->Prop}{X:KX}{e:Value}{s s':af}{V:Store}{l:List Env}{E:Value->af->Prop}(hA:F.A.frames=some (F.env::l))(hl:A.frames=some l)(z:F.env.frame=some F.env.locals)
  (hN:F.N=λa=>N a\/Own F.env a) (hb:F.b=(V,s)) (hPn:∀a,F.P a->Frm A a\/s.heap.get? a=aa) (y:∀a,N a->∃o,s.heap.get? a=some o) (x:XR F X e s') :
  wpAny (model S.prog S.w) F.A (leaving F.env e) (λZ=>PCe S N A V s X e) E s':=by
 obtain⟨ea,c,V',Ak,m',rfl,st,hX,O⟩:=x;have sL:s.heap.get? F.env.locals=aa:=by have:=st.new _ (.inl rfl);rw[hb]at this;exact this
 have NL:F.N F.env.locals:=st.own _ (.inl rfl);have nL:¬N F.env.locals:=λq=>by refine X1p (y _ q) λo e=>?_;rw[sL]at e;exact nS e
 have gL:S.g.get? F.env.locals=aa:=st.gb _ (by rw[hb];exact sL)
 have stp:Step (Frm A) noO V s V' { Ak with heap:=Ak.heap.hide F.env.locals }:=by
  have f:=st.frm;rw[hb]at f;exact(Step.narrow f hPn).hide sL
 have inv:Inv S N V' { Ak with heap:=Ak.heap.hide F.env.locals }:=st.inv.hide (λa q=>by rw[hN];exact .inl q) NL nL gL
 have B:(Ak.heap.hide F.env.locals).UpToSlots Ak.heap:=gS λb o e=>Heap.of_hide e;have d:∀{b o},(Ak.heap.hide F.env.locals).get? b=some o->b≠F.env.locals:=λe q=>by rw[q,Heap.hide_self]at e;exact nS e
 rcases O with⟨⟨base,l',el,hf,U⟩,up,hr⟩|⟨args,hm,hr⟩
 .rw[hA]at el;obtain rfl:=ae el
  refine KI hA z hf λh' u T=>⟨ea,c,V',{ Ak with heap:=Ak.heap.hide F.env.locals },rfl,⟨⟨base,l,hl,u,λb o e nf=>U b o (Heap.of_hide e) ?_⟩,(B.trans up).trans T,hr⟩,stp,inv,hX⟩
  intro hR1;refine X1pp hR1 λev Y q=>?_
  rcases ax.mp Y with rfl|Y
  .rw[z]at q;exact d e (ae q).symm
  .exact nf ⟨ev,Y,q⟩
 .refine X1pp F.room.fr λl2 el2 hl2=>?_
  rw[hA]at el2;obtain rfl:=ae el2;refine Jl (base:=hideAll Ak.heap ((F.env::l).filterMap (·.frame))) hA z (λb o e=>of_hideAll _ e) (Dm λev Y=>?_) hm λh' u T=>⟨ea,c,V',{ Ak with heap:=Ak.heap.hide F.env.locals },rfl,⟨⟨_,l,hl,u,λb o e nf=>hideAll_get _ (Heap.of_hide e) ?_⟩,B.trans T,hr⟩,stp,inv,hX⟩
  .refine Ao (hl2 ev Y) λh1 Z0=>?_
   refine X1ppp Z0 λL h2 h3 Z=>?_;refine X1pp (st.inv.Nin L h3) λo h4 h5=>?_;exact⟨h1,L,o,h2,hideAll_none _ (d7.mpr ⟨ev,Y,h2⟩),h4,h5⟩
  .intro q
   refine X1pp (d7.mp q) λev Y q=>?_
   rcases ax.mp Y with rfl|Y
   .rw[z]at q;exact d e (ae q).symm
   .exact nf ⟨ev,Y,q⟩
noncomputable def Dv(avs:List AV):Vars:=λi=>avs[i]?
theorem JI{names:List Str}{U:List Value}{x:Str}{v:Value}(h:(x,v)∈names.zip U):∃j:Nat,names[j]?=some x/\U[j]?=some v:=by
 obtain⟨j,y,e⟩:=List.mem_iff_getElem.mp h;refine⟨j,?_,?_⟩<;>simp only[List.getElem_zip,et]at e<;>simp only[List.length_zip]at y
 .rw[aA (by omega),e.1]
 .rw[aA (by omega),e.2]
theorem bindL_at{z:Str->Option cG}:∀{names:List Str}{U:List Value}(m:Str->Option Value){j:Nat}{x:Str}{v:Value},names.Nodup->names[j]?=some x->U[j]?=some v->z x=some .local->bindL z (names.zip U) m x=some v:=by
 intro names
 induction names with
 |nil=>intro U m j x v _ h;simp at h
 |cons n r Y =>
  intro U m j x v y O d T
  cases U with
  |nil=>simp at d
  |cons u us =>
   simp only[List.zip_cons_cons,bindL];rw[bJ]at y
   cases j with
   |zero =>
    simp only[e7,ew]at O d;subst O d;rw[if_pos T]
    have:∀(l:List (Str×Value))(m:Str->Option Value),(∀p∈l,p.1≠n)->bindL z l m n=m n:=by
     intro l
     induction l with
     |nil=>intro m _;rfl
     |cons p l Y =>
      intro m B;obtain⟨a,b⟩:=p;simp only[bindL];rw[Y _ λq hq=>B q (.tail _ hq)]
      split
      .exact if_neg λe=>B (a,b) (.head _) e.symm
      .rfl
    rw[this _ _ λp B e=>y.1 (by refine X1pp (JI (x:=p.1) (v:=p.2) B) λj h1 Z=>?_;rw[e]at h1;exact ag h1)]
    exact if_pos rfl
   |succ j=>exact Y _ y.2 (by simpa using O) (by simpa using d) T
theorem bindC_at{z:Str->Option cG}:∀{names:List Str}{U:List Value}(m:Str->Option Value){j:Nat}{x:Str}{v:Value},names.Nodup->names[j]?=some x->U[j]?=some v->z x≠some .local->bindC z (names.zip U) m x=some v:=by
 intro names
 induction names with
 |nil=>intro U m j x v _ h;simp at h
 |cons n r Y =>
  intro U m j x v y O d T
  cases U with
  |nil=>simp at d
  |cons u us =>
   simp only[List.zip_cons_cons,bindC];rw[bJ]at y
   cases j with
   |zero =>
    simp only[e7,ew]at O d;subst O d;rw[if_neg T]
    have:∀(l:List (Str×Value))(m:Str->Option Value),(∀p∈l,p.1≠n)->bindC z l m n=m n:=by
     intro l
     induction l with
     |nil=>intro m _;rfl
     |cons p l Y =>
      intro m B;obtain⟨a,b⟩:=p;simp only[bindC];rw[Y _ λq hq=>B q (.tail _ hq)]
      split
      .rfl
      .exact if_neg λe=>B (a,b) (.head _) e.symm
    rw[this _ _ λp B e=>y.1 (by refine X1pp (JI (x:=p.1) (v:=p.2) B) λj h1 Z=>?_;rw[e]at h1;exact ag h1)]
    exact if_pos rfl
   |succ j=>exact Y _ y.2 (by simpa using O) (by simpa using d) T
def RetK(S:Sta)(Q:AV->Store->Prop):Fl->Vars->Store->Prop:=λfl Z V=>∀N:Addr->Prop,∃v' V',View S N (match fl with|.ret v=>v|.next=>.none) V v' V'/\Q v' V'
inductive PB(F:Fx S)(Q:AV->Store->Prop)(f:Flow)(s':af):Prop
 |mk (fl:Fl)(m':Vars)(V':Store)(h:F.St m' V' s')(r:FlR S.cv s'.heap (F.D V') f fl)(k:RetK S Q fl m' V'):PB F Q f s'
theorem CallT.body0{k:Nat}{f:Addr}{c:Ap}{avs:List AV}{V:Store}{Q:AV->Store->Prop}{X:KX}(hf:IsFn S f c)(hn:avs.length=c.n)
  (h:∀(F:Fx S),F.k=k->Top F->∀Y:Value->af->Prop,(∀e s,XR F X e s->Y e s)->gU (model S.prog S.w) F.A F.env Y->∀ps,CSs F.tb F.sc ps c.body->∀s,F.St (Dv avs) V s->wpAny (model S.prog S.w) F.A (execs ps F.env) (PB F Q) Y s):CallT S (k+1) (.ref f) avs V Q X:=by
 intro N A B s O hi rl;refine X4p hf.ex λo fd body names Z4=>?_;obtain⟨ho,hd,hb,hcl,hg,hbl,hk,hco,hgen,hcd,hnl,hbind,hnm,hnd,hcs⟩:=Z4;have hlen:B.length=c.n:=rl.length.trans hn;have hkind:∀x∈names.zip B,fd.scope.names.lookup x.1=some .local\/(fd.scope.names.lookup x.1=some .cell/\((c5 (s.heap.objs.size+1) fd.scope.names []).lookup x.1).isSome=true):=by
  intro hR1 hx;obtain⟨x,v⟩:=hR1;refine X1pp (JI hx) λj h1 Z=>?_
  rcases(hnm j x h1).2 with q|q
  .exact .inl q
  .exact .inr ⟨q,fi _ _ _ (.inl q)⟩
 refine codeAny_call_cells (fd:=fd) (body:=body) (binds:=names.zip B) (by have:=O.dp;unfold recursionLimit;exact lin [A.depth,k] [] (.c V0 AG) [.c (.A V0 (.M 2 (.A V1 K1))) L9] rfl this) (hi.keep _ _ ho) hd (S.lim.keeps hi.keep) (hcd.keeps hi.keep) hb (hbind B hlen) hcl hkind (λAc hin=>?_) hco hgen hk
 refine X2pp hin.done λAd tk Af hkeep=>?_;have envL:(cN fd s.heap.objs.size f).locals=s.heap.objs.size:=rfl;have U:∀a,s.heap.objs.size<=a->s.heap.get? a=aa:=λa ha=>by
  cases q:s.heap.get? a with|none=>rfl|some o=>exact absurd (bc q) (cT.mpr ha)
 have T:∀a,Own (cN fd s.heap.objs.size f) a->s.heap.get? a=aa:=by
  rintro a (rfl|⟨x,hx⟩)
  .exact U _ (ay _)
  .exact U _ (dE (hin.above x a (mem_of_lookup hx)))
 have hnod:names.Nodup:=by
  rw[List.nodup_iff_pairwise_ne,List.pairwise_iff_getElem];intro i j hi hj hij e;have h1:=(hnm i _ (aA hi)).1;have h2:=(hnm j _ (aA hj)).1;rw[e,h2]at h1
  have:=ae h1
  exact lin [i,j] [] .no [.c V0 V1,.d V1 V0] rfl hij this
 have er:Ext (DN N V) s.heap Ac.heap:=Ext.of_keeps (by rw[Af];exact hkeep)
 have room':Room S (λa=>N a\/Own (cN fd s.heap.objs.size f) a) k (A.deeper (cN fd s.heap.objs.size f)):=by
  refine⟨O.hh,?_,?_,?_⟩
  .refine X1pp O.fr λl el hl=>?_
   refine⟨cN fd s.heap.objs.size f::l,?_,?_⟩
   .show (A.frames.map (cN fd s.heap.objs.size f::·))=_;rw[el];rfl
   .intro e he
    rcases ax.mp he with rfl|he
    .exact⟨by show fd.scope.kind≠_;rw[hk];simp,s.heap.objs.size,rfl,.inr (.inl rfl),hi.not_g (U _ (ay _))⟩
    .refine Ao (hl e he) λh1 Z0=>?_
     refine X1ppp Z0 λL h2 h3 h4=>?_;exact⟨h1,L,h2,.inl h3,h4⟩
  .have:=O.dp;show A.depth+1+2 * k<900;exact lin [A.depth,k] [] (.c (.A (.A V0 K1) (.M 2 V1)) L9) [.c (.A V0 (.M 2 (.A V1 K1))) L9] rfl this
  .have:=O.un;show A.units+3+20 * k<9000;exact lin [A.units,k] [] (.c (.A (.A V0 K3) (.M 20 V1)) B7) [.c (.A V0 (.M 20 (.A V1 K1))) B7] rfl this
 have fc':∀x,(cN fd s.heap.objs.size f).kindOf x=some .cell->∃c,(cN fd s.heap.objs.size f).cells.lookup x=some c:=λx hx =>
  bF.mp (fi (x:=x) fd.scope.names (s.heap.objs.size+1) [] (.inl hx))
 have hPn:∀a,Frm (A.deeper (cN fd s.heap.objs.size f)) a->Frm A a\/s.heap.get? a=aa:=by
  intro a hR1;refine X1pp hR1 λl el Z1=>?_;refine X1pp Z1 λe he hf=>?_;refine X1pp O.fr λl' el' Z=>?_
  have:l=cN fd s.heap.objs.size f::l':=by
   have q:A.frames.map (cN fd s.heap.objs.size f::·)=some l:=el;rw[el']at q;exact(ae q).symm
  clear el Z1;subst this
  rcases ax.mp he with rfl|he
  .exact .inr (by have q:some s.heap.objs.size=some a:=hf;obtain rfl:=ae q;exact U _ (ay _))
  .exact .inl ⟨l',el',e,he,hf⟩
 have hPN:∀a,Frm (A.deeper (cN fd s.heap.objs.size f)) a->N a\/Own (cN fd s.heap.objs.size f) a:=by
  intro a hR1;refine X1pp hR1 λl el Z2=>?_;refine X1pp Z2 λe he hf=>?_;refine X1pp room'.fr λl2 el2 h2=>?_;rw[el2]at el;obtain rfl:=ae el;refine Ao (h2 e he) λZ Z3=>?_;refine X1ppp Z3 λL h3 h4 Z=>?_;rw[hf]at h3;obtain rfl:=ae h3;exact h4
 let Fc:Fx S:=⟨A.deeper (cN fd s.heap.objs.size f),c.tb,cN fd s.heap.objs.size f,(V,s),(λa=>N a\/Own (cN fd s.heap.objs.size f) a),k,room',hk,hg,hbl,fc'⟩
 have hD:∀b,DN Fc.N V b->DN N V b\/s.heap.get? b=aa:=λb hb=>hb.elim (λq=>.inl (.inl q)) λq=>q.elim (λq=>.inl (.inr q)) λq=>.inr (T b q);have st:Fc.St (Dv avs) V Ac:=by
  refine⟨⟨?_,?_,?_,?_,hi.σg,(λa d q=>q.elim (hi.σN a d) λq=>by refine X1p (hi.dom_there d) λob e=>?_;rw[T a q]at e;exact nS e),λa q=>?_,λa oa e=>(hi.rep a oa e).ext er hD (by rw[Af];exact hkeep a)⟩,
   ⟨_,_,hin.toInCall.ns,hin.cell,λa ha=>⟨hi.not_dom (T a ha),hi.not_g (T a ha)⟩,λx y cc h1 h2=>name_of_addr hin.apart (mem_of_lookup h1) (mem_of_lookup h2),λx cc h1=>eG (hin.above x cc (mem_of_lookup h1)),λx i av hx hm=>?_⟩,
   Step.of_keeps (by rw[Af];exact hkeep) (λZ h=>.inl h),hPN,T,λa ha=>.inr ha,λa e=>hi.not_g e⟩
  .rw[Af];exact λb ob e=>hkeep b ob (hi.keep b ob e)
  .rw[Af];exact hi.gens
  .rw[Af];exact hi.drawn
  .rw[Af];exact hi.os
  .rcases q with q|rfl|⟨x,hx⟩
   .refine X1pp (hi.Nin a q) λob e nf=>?_;rw[Af];exact⟨ob,hkeep a ob e,nf⟩
   .refine X3ppp hin.toInCall.ns λob Z Z e dd Z=>?_;exact⟨ob,e,λvs z=>by rw[dd]at z;exact nDf rfl z⟩
   .refine X1pp (hin.cell x a hx) λob e dd=>?_;exact⟨ob,e,λvs z=>by rw[dd]at z;exact nDf rfl z⟩
  .refine X1pp (rl.get hm) λv hv rv=>?_
   have hin':i<names.length:=by
    have:i<B.length:=by
     rcases bL i B.length with q|q
     .exact q
     .rw[aX q]at hv;exact nS hv
    exact lin [names.length,c.n,B.length,i] [] (.c V3 V0) [.D (-1) V0 V1,.d V2 V1,.c V3 V2] rfl hnl hlen this
   have hxi:=aA hin';have hxx:names[i]=x:=BN (hnm i _ hxi).1 hx;rw[hxx]at hxi;have rv':Rep S.cv Ac.heap (DN Fc.N V) av v:=rv.ext er hD;have kd:(cN fd s.heap.objs.size f).kindOf x=fd.scope.names.lookup x:=rfl
   rcases(hnm i x hxi).2 with q|q
   .show LocAt _ _ _ _ _ _ ((cN fd s.heap.objs.size f).kindOf x) _ _
    rw[kd,q];exact⟨v,bindL_at _ hnod hxi hv (kd.trans q),rv'⟩
   .show LocAt _ _ _ _ _ _ ((cN fd s.heap.objs.size f).kindOf x) _ _
    rw[kd,q];refine X1p (bF.mp (fi (x:=x) fd.scope.names (s.heap.objs.size+1) [] (.inl q))) λcc hcc=>?_;exact⟨v,cc,hcc,bindC_at _ hnod hxi hv (by rw[kd,q];simp),rv'⟩
 refine X1pp O.fr λlf elf Z=>?_;have top:Fc.A.frames=some (Fc.env::lf):=by show (A.frames.map (cN fd s.heap.objs.size f::·))=_;rw[elf];rfl
 have hbody:=h Fc rfl ⟨⟨lf,top⟩,rfl⟩;have hcs':CSs Fc.tb Fc.sc body c.body:=hcs;refine aJ (hbody _ (λe s' hx=>KJ (N:=N) top elf rfl rfl rfl hPn (λa q=>by refine X1pp (hi.Nin a q) λo e Z=>?_;exact⟨o,e⟩) hx) PassesOwn.leaving _ hcs' Ac st) (λfl s' hq=>?_) λe s' hx=>hx
 obtain⟨fl',m',V',h',hfr,hret⟩:=hq;refine X2pp (hret N) λv' V'' hview hQ=>?_
 have hi':Inv S N V' s':=⟨h'.inv.keep,h'.inv.gens,h'.inv.drawn,h'.inv.os,h'.inv.σg,λa d q=>h'.inv.σN a d (.inl q),λa q=>h'.inv.Nin a (.inl q),
  λa oa e=>(h'.inv.rep a oa e).ext (Ext.refl _ _) (λb q=>.inl (q.imp id .inl)) λZ q=>q⟩
 have fin:∀u,Rep S.cv s'.heap (DN Fc.N V') (match fl' with|.ret v=>v|.next=>.none) u->PCv S N A V s Q u s':=by
  intro u ru;refine Bl (hview s' u hi' (ru.less λa q=>q.imp id .inl)) λi2 st2 r2=>?_;exact⟨v',V'',(Step.narrow h'.frm hPn).trans st2.any,i2,r2,hQ⟩
 cases fl' with
 |next =>
  cases fl with
  |next=>exact fin .none .none
  |_=>exact hfr.elim
 |ret v =>
  cases fl with|ret u=>exact fin u hfr|_=>exact hfr.elim
theorem CallT.body{k:Nat}{f:Addr}{c:Ap}{u:List AV}{V:Store}{Q:AV->Store->Prop}{X:KX}(T:IsFn S f c)(O:u.length=c.n)
  (h:∀(F:Fx S),F.k=k->Top F->∀Y:Value->af->Prop,(∀e s,XR F X e s->Y e s)->gU (model S.prog S.w) F.A F.env Y->SsT F (Dv u) V c.body (RetK S Q) Y):CallT S (k+1) (.ref f) u V Q X :=
 CallT.body0 T O λF U ht Y z B ps d s hs=>aJ (h F U ht Y z B ps d s hs) (λ_ _ ⟨fl,m',V',_,h1,h2,h3⟩=>⟨fl,m',V',h1,h2,h3⟩) λZ Z e=>e
end
section
variable {S:Sta}
def Its(h:Heap)(W:Addr->Prop):Prop:=∀a,W a->∃o,h.get? a=some o/\Df o
theorem Its.seq{h:Heap}{W:Addr->Prop}(x:Its h W){a:Addr}{o:Obj}(e:h.get? a=some o)(u:∀vs,o.data≠.fields vs):¬W a:=λq=>by
 refine X1ppp (x a q) λB y Z d=>?_;refine X1p d λvs z=>?_;rw[e]at y;obtain rfl:=ae y;exact u vs z
theorem Its.turn{h h':Heap}{D W:Addr->Prop}(it:Its h W)(k:∀b o,¬W b->h.get? b=some o->h'.get? b=some o)(b:Addr)(o:Obj)(e:h.get? b=some o)(y:¬Df o)(d:¬D b):h'.get? b=some o/\¬D b :=
 ⟨k b o (λq=>by refine X1pp (it b q) λz u h'=>?_;exact y (ae (u.symm.trans e)▸h')) e,d⟩
section
variable {cv:Nat->Value}{h h':Heap}{D W:Addr->Prop}
theorem Rep.it(it:Its h W)(k:∀b o,¬W b->h.get? b=some o->h'.get? b=some o){av:AV}{v:Value}(r:Rep cv h D av v):Rep cv h' D av v :=
 r.turn (it.turn k)
theorem RepL.it(it:Its h W)(k:∀b o,¬W b->h.get? b=some o->h'.get? b=some o){av:List AV}{v:List Value}(r:RepL cv h D av v):RepL cv h' D av v :=
 r.turn (it.turn k)
theorem RepD.it(it:Its h W)(k:∀b o,¬W b->h.get? b=some o->h'.get? b=some o){av:List (Ag×AV)}{v:List aO}(r:RepD cv h D av v):RepD cv h' D av v :=
 r.turn (it.turn k)
theorem RepF.it(it:Its h W)(k:∀b o,¬W b->h.get? b=some o->h'.get? b=some o){av:List (Str×AV)}{v:List aO}(r:RepF cv h D av v):RepF cv h' D av v :=
 r.turn (it.turn k)
theorem RepO.it(it:Its h W)(k:∀b o,¬W b->h.get? b=some o->h'.get? b=some o){o:AObj}{a:Addr}(r:RepO cv h D o a):RepO cv h' D o a:=by
 induction r with|list e r=>exact .list (k _ _ (it.seq e (by intro _ h;exact nDf rfl h)) e) (r.it it k)|dict e u n r=>exact .dict (k _ _ (it.seq e (by intro _ h;exact nDf rfl h)) e) u n (r.it it k)|inst e n=>exact .inst (k _ _ (it.seq e (by intro _ h;exact nDf rfl h)) e) n|attrs e r=>exact .attrs (k _ _ (it.seq e (by intro _ h;exact nDf rfl h)) e) (r.it it k)
end
structure ItStep(W:Addr->Prop)(s s':af):Prop where
 keep:∀b o,¬W b->s.heap.get? b=some o->s'.heap.get? b=some o
 rest:s'.gens=s.gens/\s'.drawn=s.drawn/\s'.os=s.os
theorem St.it{tb:List Nat}{env:Env}{N P W:Addr->Prop}{b:Store×af}{m:Vars}{V:Store}{s s':af}(hs:Internal.St S tb env N P b m V s)(it:Its s.heap W)
  (new:∀a,W a->b.2.heap.get? a=aa) (hN:∀a,W a->¬N a) (st:ItStep W s s'):Internal.St S tb env N P b m V s':=by
 obtain⟨B,cm,n,c,O,ap,cl,r⟩:=hs.loc;have T:∀a,Own env a->¬W a:=by
  rintro a (rfl|⟨x,u⟩)
  .refine X3ppp n λo es ep e d Z=>?_;exact it.seq e (by rw[d];intro _ h;exact nDf rfl h)
  .refine X1pp (c x a u) λo e d=>?_;exact it.seq e (by rw[d];intro _ h;exact nDf rfl h)
 refine⟨⟨λa o e=>st.keep a o (λq=>by rw[hs.gb a (new a q)]at e;exact nS e) (hs.inv.keep a o e),st.rest.1.trans hs.inv.gens,st.rest.2.1.trans hs.inv.drawn,st.rest.2.2.trans hs.inv.os,hs.inv.σg,hs.inv.σN,λa h=>?_,λa o e=>(hs.inv.rep a o e).it it st.keep⟩,?_,?_,hs.pN,hs.new,hs.own,hs.gb⟩
 .refine X1pp (hs.inv.Nin a h) λo e nf=>?_;exact⟨o,st.keep a o (λq=>hN a q h) e,nf⟩
 .refine⟨B,cm,?_,λx cc u=>?_,O,ap,cl,λx i av u U=>?_⟩
  .refine X3pp n λo es ep e d=>?_;exact⟨o,es,ep,st.keep _ _ (T _ (.inl rfl)) e,d⟩
  .refine X1pp (c x cc u) λo e d=>?_;exact⟨o,st.keep _ _ (T _ (.inr ⟨x,u⟩)) e,d⟩
  .exact LocAt.map (r x i av u U) (λy=>y.it it st.keep) (λZ Y=>Y) (λZ Y=>Y)
 .exact hs.frm.over λc e o=>st.keep c o λz=>e.elim λo e=>Am (new c z) e
structure Walk(F:Fx S)(I:Addr)(items:List AV)(t:aj)(W:Addr->Prop)(J:Nat->Store->af->Prop)(ok:Store->Store->Prop):Prop where
 its:∀i V s,J i V s->Its s.heap W
 stays:∀i m m' V s V' s' (O:Addr->Prop),(∀a,O a->F.N a)->(∀a,W a->¬F.N a)->J i V s->F.St m V s->Step F.P O V s V' s'->F.St m' V' s'->ok V V'->J i V' s'
 next:∀i x m V s (GA:af->Prop) (Q:Value->af->Prop) (X:Value->af->Prop),items[i]?=some x->F.St m V s->J i V s ->
  (∀v Aj,ItStep W s Aj->Rep S.cv Aj.heap (F.D V) x v->J (i+1) V Aj->Q v Aj) ->
  wpAny (model S.prog S.w) F.A (pyNext (.ref I)) (λr Ac=>match r with
   |none=>GA Ac
   |some v=>wpAny (model S.prog S.w) F.A (letOwnedTupleGo t (.ref I) v) (λZ Aj=>Q v Aj) X Ac) X s
 self:∀i V s (Q:Value->af->Prop) (X:Value->af->Prop),J i V s->Q (.ref I) s->wpAny (model S.prog S.w) F.A (pyIter (.ref I)) Q X s
 done:∀m V s (Q:Option Value->af->Prop) (X:Value->af->Prop),F.St m V s->J items.length V s->(∀Ac,ItStep W s Ac->Q none Ac)->wpAny (model S.prog S.w) F.A (pyNext (.ref I)) Q X s
set_option tactic.hygienic true in
def L8(F:Fx S)(p:Pat)(body:List Internal.S)(ok:Store->Store->Prop)(K:Fl->Vars->Store->Prop)(X:Value->af->Prop):List AV->Vars->Store->Prop
 |[],m,V=>K .next m V
 |x::r,m,V=>PT F m V p x (λAq Aa=>SsT F Aq Aa body (λfl As Ab=>match fl with
   |.next=>ok V Ab/\L8 F p body ok K X r As Ab
   |.ret v=>K (.ret v) As Ab) X) X
section
variable {F:Fx S}{V:Store}{X:Value->af->Prop}{K:Fl->Vars->Store->Prop}
inductive FInv(F:Fx S)(p:Pat)(body:List Internal.S)(ok:Store->Store->Prop)(K:Fl->Vars->Store->Prop)(X:Value->af->Prop)(items:List AV)(J:Nat->Store->af->Prop)(AC:Store)(Ak:af)(n:Nat)(s':af):Prop
 |mk (i:Nat)(m':Vars)(V':Store)(hn:n+i=items.length+1)(hi:i<=items.length)(st:Step F.P F.O AC Ak V' s')(h:F.St m' V' s')(hJ:J i V' s')(l:L8 F p body ok K X (items.drop i) m' V'):FInv F p body ok K X items J AC Ak n s'
set_option tactic.hygienic true in
theorem forLoopT{I:Addr}{items:List AV}{t:aj}{W:Addr->Prop}{J:Nat->Store->af->Prop}{ok:Store->Store->Prop}{p:Pat}{body:List Internal.S}{pb:List Stmt}{m:Vars}{Ak s:af}{AC:Store}
  (Wk:Walk F I items t W J ok) (hX:gU (model S.prog S.w) F.A F.env X) (hp:CP F.tb F.sc t p) (hb:CSs F.tb F.sc pb body) (new:∀a,W a->Ak.heap.get? a=aa)
  (st:Step F.P F.O AC Ak V s) (hs:F.St m V s) (bN:∀a,W a->F.b.2.heap.get? a=aa) (hN:∀a,W a->¬F.N a) (hJ:J 0 V s) (h:L8 F p body ok K X items m V) :
  codeAny (model S.prog S.w) F.A (.forLoop t (.ref I) pb [] F.env) (λr s'=>match r with
   |.ok f=>PS F AC Ak K f s'
   |.error e=>cameBackBy (model S.prog S.w) F.A F.env X e s') s:=by
 refine codeAny_forLoop_any (FInv F p body ok K X items J AC Ak) ?_ (items.length+1) ⟨0,m,V,rfl,di _,st,hs,hJ,h⟩;intro n Ac T;obtain⟨i,Aq,Aa,hn,hi,Ai,Ad,DV,hl⟩:=T;have its:=Wk.its i Aa Ac DV;have stp:∀{Aj:af},ItStep W Ac Aj->Step F.P F.O AC Ak Aa Aj:=λq=>Ai.over λc e o=>q.keep c o λz=>e.elim λo e=>Am (new c z) e
 by_cases Y:i<items.length
 .obtain⟨x,hx⟩:∃x,items[i]?=some x:=⟨_,aA Y⟩
  have hd:items.drop i=x::items.drop (i+1):=by
   rw[List.drop_eq_getElem_cons Y];rw[aA Y]at hx;obtain rfl:=ae hx;rfl
  rw[hd]at hl;refine Wk.next i x Aq Aa Ac _ _ _ hx Ad DV λv Aj y rv H7=>?_;have Ah:F.St Aq Aa Aj:=Ad.it its bN hN y;refine f6 hX (aJ (hl t hp v Aj Ah rv) ?_ λZ Z e=>e);intro _ BI T;obtain⟨m₃,Ar,A0,AS,hq⟩:=T;refine f6 hX (aJ (hq pb hb BI AS) ?_ λZ Z e=>e);intro f Bv T;obtain⟨fl,U,Cj,BP,Br,hf,B⟩:=T;have st':=((stp y).trans A0).trans BP
  cases fl with
  |next =>
   cases f with
   |next=>exact⟨n - 1,lin [n - 1,n] [] (.c V0 V1) [.d (.A V0 K1) V1] rfl (ak (lin [n,i,items.length] [] (.b K1 V0) [.D (-1) (.A V0 V1) (.A V2 K1),.c V1 V2] rfl hn Y)),i+1,U,Cj,ar (lin [n,i,items.length,n - 1] [] (.b (.A V3 (.A V1 K1)) (.A V2 K1)) [.d (.A V0 V1) (.A V2 K1),.d (.A V3 K1) V0] rfl hn (ak (lin [n,i,items.length] [] (.b K1 V0) [.D (-1) (.A V0 V1) (.A V2 K1),.c V1 V2] rfl hn Y))) (lin [n,i,items.length,n - 1] [] (.b (.A V2 K1) (.A V3 (.A V1 K1))) [.D (-1) (.A V0 V1) (.A V2 K1),.b V0 (.A K1 V3)] rfl hn (aq.mp (ay ((n) - (1))))),Y,st',Br,Wk.stays _ _ _ _ _ _ _ F.O Ah.own hN H7 Ah (A0.trans BP) Br B.1,B.2⟩
   |_=>exact hf.elim
  |ret v =>
   cases f with|ret u=>exact⟨.ret v,U,Cj,st',Br,hf,B⟩|_=>exact hf.elim
 .have hi':i=items.length:=by exact ar (lin [i,items.length] [] (.b V0 V1) [.b V0 V1] rfl hi) (lin [i,items.length] [] (.b V1 V0) [.j V0 V1] rfl Y)
  clear hn hi Y;subst hi';rw[List.drop_length]at hl;refine Wk.done Aq Aa Ac _ _ Ad DV λAj y=>?_;exact f5 ⟨.next,Aq,Aa,stp y,Ad.it its bN hN y,trivial,hl⟩
end
end
section
set_option backward.match.sparseCases true
variable {S:Sta}
set_option tactic.hygienic true in
theorem Bf{A:cD}{X:Value->af->Prop}{t:aj}{I:Addr}{v:Value}{s:af}{o:Obj}{T:String}{Q:Unit->af->Prop}(U:s.heap.get? I=some o)(d:o.cls=.type T)
  (O:["enumerate", "zip", "dict_itemiterator", "dict_reverseitemiterator", "odict_iterator", "itertools.zip_longest", "itertools.pairwise"].contains T=false) (h:Q () s) :
  wpAny (model S.prog S.w) A (letOwnedTupleGo t (.ref I) v) Q X s:=by
 have u:wpAny (model S.prog S.w) A (do
  let (.ref r,.ref a):=((cE I,v):Value×Value)|return
  let o <- load r
  match o.cls,o.data with
  |.type n,.fields vs =>
   if ["enumerate", "zip", "dict_itemiterator", "dict_reverseitemiterator", "odict_iterator", "itertools.zip_longest", "itertools.pairwise"].contains n && vs[0]? == some (dL a) then
    rule "for.unpacks-the-owned-tuple"
    updateField r 0 .none
  |_,_=>pure ()) Q X s:=by
  cases v with
  |ref a =>
   refine ac (wpAny_load U ?_);rw[d]
   split
   .rename_i n vs y B
    cases y
    rw[O,Bool.false_and,if_neg aQ];exact ah h
   .exact ah h
  |_=>exact ah h
 cases t<;>first|exact u|exact ah h
theorem Its.notDom{N W:Addr->Prop}{V:Store}{s:af}(x:Its s.heap W)(hi:Inv S N V s){a:Addr}(q:W a):¬Dom V a:=λd=>by
 cases e:V a with
 |none=>exact d e
 |some o =>
  cases hi.rep a o e with|list e _=>exact x.seq e (by intro _ h;exact nDf rfl h) q|dict e _ _ _=>exact x.seq e (by intro _ h;exact nDf rfl h) q|inst e _=>exact x.seq e (by intro _ h;exact nDf rfl h) q|attrs e _=>exact x.seq e (by intro _ h;exact nDf rfl h) q
section
variable {F:Fx S}{m m':Vars}{V V':Store}{s s':af}{X:Value->af->Prop}{Q:AV->Store->Prop}
theorem Its.notOwn{W:Addr->Prop}(x:Its s.heap W)(hs:F.St m V s){a:Addr}(q:W a):¬F.O a:=by
 obtain⟨T,z,n,c,_⟩:=hs.loc
 rintro (rfl|⟨y,u⟩)
 .refine X3ppp n λo es ep e d Z=>?_;exact x.seq e (by rw[d];intro _ h;exact nDf rfl h) q
 .refine X1pp (c y a u) λo e d=>?_;exact x.seq e (by rw[d];intro _ h;exact nDf rfl h) q
theorem Its.still{O W:Addr->Prop}(x:Its s.heap W)(hs:F.St m V s)(y:∀a,O a->F.N a)(hN:∀a,W a->¬F.N a)(st:Step F.P O V s V' s'){a:Addr}(q:W a){o:Obj}(e:s.heap.get? a=some o):s'.heap.get? a=some o :=
 st.ext.obj a o e (λd=>d.elim (x.notDom hs.inv q) λz=>hN a q (z.elim (y a) (hs.pN a)))
def Moves(F:Fx S)(V:Store)(Ac:af)(J:Fx S->Nat->Store->af->Prop):Prop :=
 ∀(AU:Fx S)(Ab:Store)(Aj:af),(∀b o,Ac.heap.get? b=some o->Aj.heap.get? b=some o)->(∀b,AU.D Ab b->F.D V b\/Ac.heap.get? b=aa)->(∀b o,V b=some o->Ab b=some o)->J AU 0 Ab Aj
theorem Moves.here{J:Fx S->Nat->Store->af->Prop}(h:Moves F V s J):J F 0 V s:=h F V s (λZ Z e=>e) (λZ d=>.inl d) λZ Z e=>e
inductive PIter(F:Fx S)(V:Store)(s:af)(items:List AV)(ok:Store->Store->Prop)(t:aj)(it:Value)(Ac:af):Prop
 |mk (I:Addr) (W:Addr->Prop) (J:Fx S->Nat->Store->af->Prop) (hit:it=.ref I) (wk:∀AU:Fx S,Walk AU I items t W (J AU) ok) (kp:∀b o,s.heap.get? b=some o->Ac.heap.get? b=some o) (hs:∃h' tk,Ac={ s with heap:=h',toks:=tk })
  (nw:∀a,W a->s.heap.get? a=aa) (mv:Moves F V Ac J):PIter F V s items ok t it Ac
def IterT(F:Fx S)(V:Store)(a:AV)(items:List AV)(ok:Store->Store->Prop):Prop :=
 ∀m va s t (X:Value->af->Prop),F.St m V s->Rep S.cv s.heap (F.D V) a va->wpAny (model S.prog S.w) F.A (pyIter va) (PIter F V s items ok t) X s
def okL(a:AV)(V V':Store):Prop:=match a with
 |.loc ad _=>V' ad=V ad
 |_=>True
theorem okL_dl{a:AV}{l:List AV}(h:dl V a=some l)(o:okL a V V'):dl V' a=some l:=by
 cases a with|loc ad z=>exact(congrArg (·.bind AObj.list?) (show V' ad=V ad from o)).trans h|_=>exact h
theorem IterT.list(hq:S.hx=aa){a:AV}{l:List AV}(h:dl V a=some l):IterT F V a l (okL a):=by
 intro m va s t X hs ra;refine X3ppp (ra.lst hs.inv h) λad vs n Z0 e rl=>?_;subst Z0;have hL:s.heap.IsList ad vs.toArray:=⟨_,e,rfl,n,rfl⟩;refine wpAny_pyIter_list hL ⟨s.heap.objs.size,(·=s.heap.objs.size),λAU i V' s'=>s'.heap.IsListIter s.heap.objs.size ad i/\Rep S.cv s'.heap (AU.D V') a (.ref ad)/\dl V' a=some l,rfl,?_,Ax _ _,⟨_,_,rfl⟩,λb q=>by rw[q];exact AB _,?_⟩
 .have y:∀i (s':af),s'.heap.IsListIter s.heap.objs.size ad i->Its s'.heap (·=s.heap.objs.size):=by
   intro i s' hR1 b hR2;refine X1ppp hR1 λo e c d=>?_;subst hR2;exact⟨o,e,⟨_,c,by decide⟩,_,d⟩
  intro AU;refine⟨λi V' s' U=>y i s' U.1,λi Aq As Aa Ac Ab Aj O hO hN U Ad st Ah o=>⟨?_,U.2.1.step st hO Ad.pN,okL_dl U.2.2 o⟩,λi x Aq Aa Ac GA Q X hx Ad U hQ=>?_,λi Aa Ac Q X U hQ=>wpAny_pyIter_listiter U.1 hQ,λAq Aa Ac Q X Ad U hQ=>?_⟩
  .have z:=y i Ac U.1
   refine X1ppp U.1 λo e c d=>?_;exact⟨o,z.still Ad hO hN st rfl e,c,d⟩
  .refine Bl U λB u hl=>?_
   refine X3ppp (u.lst Ad.inv hl) λad' ws n' e1 e' Y=>?_;obtain rfl:=bG e1;refine X1pp (Y.get hx) λv hv rv=>?_;have z:=y i Ac B;refine wpAny_pyNext_list_item B (items:=ws.toArray) ⟨_,e',rfl,n',rfl⟩ (x:=v) (by simpa using hv) λh' T hsb=>?_
   have ist:ItStep (·=s.heap.objs.size) Ac { Ac with heap:=h' }:=⟨λb o q e=>hsb.extBut b o q e,rfl,rfl,rfl⟩
   refine X1ppp (id T) λo eo co Z=>?_;refine Bf eo co (by decide) (hQ v _ ist (rv.it z ist.keep) ⟨T,u.it z ist.keep,hl⟩)
  .refine Bl U λB u hl=>?_
   refine X3ppp (u.lst Ad.inv hl) λad' ws n' e1 e' Y=>?_;obtain rfl:=bG e1;exact wpAny_pyNext_list_end (AU.room.quiet hq) B (items:=ws.toArray) ⟨_,e',rfl,n',rfl⟩ (by simp[Y.length]) λh' he=>hQ _ ⟨λb o q e=>he b o q e,rfl,rfl,rfl⟩
 .intro AU Ab Aj kp hD ks
  refine⟨⟨_,kp _ _ (aD _ rfl),rfl,rfl⟩,?_,?_⟩
  .refine Ao (hs.grow (Ax s.heap { cls:=.type "list_iterator",data:=.fields #[.ref ad,.int 0 0] }) s.toks) λh1 st=>?_
   exact(ra.st st.any h1).ext (Ext.of_keeps kp) hD
  .cases a with
   |loc ad' ii =>
    refine X1pp (AD (show (V ad').bind AObj.list?=some l from h)) λo e' h'=>?_
    exact(congrArg (·.bind AObj.list?) (ks _ _ e')).trans h'
   |_=>exact h
noncomputable def AW(a c:Int)(n:Nat):List AV:=(bp n).map λi:Nat=>AV.int (a+c * (i:Int))
end
end
section
variable {S:Sta}
section
variable {A:cD}{E:Value->af->Prop}{s:af}
def DictE(h:Heap)(d:Addr)(es:Array aO)(ep:Nat):Prop:=h.get? d=some (A5 es ep)
theorem DictE.typeIs{d:Addr}{es:Array aO}{ep:Nat}(x:DictE s.heap d es ep):s.TypeIs (.ref d) "dict":=⟨_,x,rfl⟩
theorem It{d:Addr}{es:Array aO}{ep:Nat}{Q:Value->af->Prop}(y:(d == cL)=false)(O:DictE s.heap d es ep)
  (U:Q (.ref s.heap.objs.size) { s with heap:=s.heap.push { cls:=.type "dict_keyiterator",data:=.fields #[.ref d,.int 0 0,.int es.size 0,.int ep 0] } }) :
  wpAny (model S.prog S.w) A (pyIter (.ref d)) Q E s:=by
 have z:=O.typeIs;refine wpAny_pyIter_slot z fj (dr fj z PySem.F.entry_dict_iter ?_ (PySem.F.args_dict_iter_1 _));unfold eT.«dict.__iter__»;refine ac ?_;unfold Builtin.Dict.dictSlotNone;refine ac (fB z ?_);show wpAny _ _ (pure (cE d)) _ _ s;refine ah ?_;show wpAny _ _ (fE d >>= _) _ _ s;unfold fE;rw[if_neg (by rw[y];exact aQ)]
 refine ac (ah ?_);refine ac (cO O rfl ?_);refine ac (wpAny_dictEpoch O rfl ?_);refine ac (bW (ah ⟨_,rfl, "dict_keyiterator",_,⟨_,aD _ rfl,rfl⟩,cf.lookup,?_⟩))
 simpa[dL]using U
theorem Ir{it d:Addr}{i ep:Nat}{es:Array aO}{e:aO}{Q:Option Value->af->Prop}(u:s.heap.IsKeyIter it d i es.size ep)
  (O:DictE s.heap d es ep) (z:es[i]?=some e)
  (hQ:∀h',h'.IsKeyIter it d (i+1) es.size ep->ie it s.heap h'->Q (some e.key) { s with heap:=h' }) :
  wpAny (model S.prog S.w) A (pyNext (.ref it)) Q E s:=by
 refine X1ppp (id u) λo U B Y=>?_;unfold pyNext
 refine ac (eM (dM (name:=b6 "__next__") u.typeIs cf
  (dr cf u.typeIs eN ?_ (eL _))))
 refine ac (ah ?_);refine ac ?_;refine ac ?_
 first|refine ac (cZ u.typeIs (ah ?_))|refine ac (dK u.typeIs (ah ?_))
 refine ac (wpAny_fieldsOf U Y ?_);have y:f7 "dict_keyiterator"=false:=by decide
 rw[y];show wpAny _ _ (if (cE d == bo)=true then _ else _) _ _ s;rw[if_neg (show ¬((cE d == bo)=true) from aQ)]
 refine ac (ah ?_);refine ac (cO O rfl ?_);rw[if_neg (by simp)]
 refine ac (ah ?_);refine ac (wpAny_dictEpoch O rfl ?_);rw[if_neg (by simp)]
 refine ah ?_;simp only[show ¬((i:Int)<0) from by exact lin [i] [] (.l (.c V0) K0) [] rfl,if_false,b7,z]
 refine ac ?_
 first|refine ac (cZ u.typeIs (ah ?_))|refine ac (dK u.typeIs (ah ?_))
 refine ac (wpAny_isOneOf_keyiter u.typeIs ?_);show wpAny _ _ (setField (.ref it) 1 (dL ((i:Int)+1)) >>= _) _ _ s;refine ac (ff U Y (by simp) ?_)
 have T:(s.heap.update it (cW (·.setIfInBounds 1 (dL ((i:Int)+1))))).IsKeyIter it d (i+1) es.size ep :=
  ⟨_,bM _ U (fA (dZ Y _)),(Obj.cls_mapFields ..).trans B,by rw[dZ Y];simp[dL]⟩
 refine ac (bI ?_);refine ac (wpAny_isOneOf_keyiter (s:={ s with heap:=s.heap.update it (cW (·.setIfInBounds 1 (dL ((i:Int)+1)))) }) T.typeIs ?_)
 show wpAny _ _ (pure e.key) _ _ _;exact ah (ah ⟨_,rfl,ah (hQ _ T (bK ..))⟩)
theorem LF{it d:Addr}{i ep:Nat}{es:Array aO}{Q:Option Value->af->Prop}(hh:A.handled=none)(u:s.heap.IsKeyIter it d i es.size ep)
  (O:DictE s.heap d es ep) (B:es.size<=i) (Y:∀h',dn it s.heap h'->Q none { s with heap:=h' }):wpAny (model S.prog S.w) A (pyNext (.ref it)) Q E s:=by
 refine X1ppp (id u) λo U hc z=>?_;unfold pyNext
 refine ac (eM (dM (name:=b6 "__next__") u.typeIs cf
  (dr cf u.typeIs eN ?_ (eL _))))
 refine ac (ah ?_);refine ac ?_;refine ac ?_
 first|refine ac (cZ u.typeIs (ah ?_))|refine ac (dK u.typeIs (ah ?_))
 refine ac (wpAny_fieldsOf U z ?_);have y:f7 "dict_keyiterator"=false:=by decide
 rw[y];show wpAny _ _ (if (cE d == bo)=true then _ else _) _ _ s;rw[if_neg (show ¬((cE d == bo)=true) from aQ)]
 refine ac (ah ?_);refine ac (cO O rfl ?_);rw[if_neg (by simp)]
 refine ac (ah ?_);refine ac (wpAny_dictEpoch O rfl ?_);rw[if_neg (by simp)]
 refine ah ?_;simp only[show ¬((i:Int)<0) from by exact lin [i] [] (.l (.c V0) K0) [] rfl,if_false,b7,Array.getElem?_eq_none B]
 refine ac ?_
 first|refine ac (cZ u.typeIs (ah ?_))|refine ac (dK u.typeIs (ah ?_))
 show wpAny _ _ (setField (.ref it) 0 .none >>= _) _ _ s;refine ac (ff U z (by simp) ?_)
 show wpAny _ _ (newExc (.type "StopIteration") [] >>= _) _ _ _;refine ac ?_;simp only[newExc,newTuple];refine ac (bW ?_ (by size_fits))
 refine ac (m:=gr _ _) (wpAny_of_eq (a:=bo) (by first|rfl|(simp only[gr];rfl)) ?_)
 refine bW ?_ (by size_fits)
 simp only[raiseNew];refine ac (wpAny_handled ?_);rw[show A.in1.handled=none from hh]
 refine ac (ah (wpAny_throw ?_));refine ac (fJ (T := "StopIteration") (b:=true) ⟨_,aD _ rfl,rfl⟩ isSubtype_stop ?_);exact ah (Y _ (((bK ..).extBut.push _).push _))
end
section
variable {F:Fx S}{m m':Vars}{V V':Store}{s s':af}{X:Value->af->Prop}{Q:AV->Store->Prop}
theorem grown{o:Obj}{av:AV}{v:Value}(hs:F.St m V s)(r:Rep S.cv s.heap (F.D V) av v):Rep S.cv (s.heap.push o) (F.D V) av v:=by
 refine Ao (hs.grow (Ax s.heap o) s.toks) λY st=>?_;exact r.st st.any Y
theorem IterT.tup(hq:S.hx=aa){l:List AV}:IterT F V (.tup l) l (λZ Z=>True):=by
 intro m va s t X hs ra;obtain⟨ad,vs,n,rfl,e,rl⟩:∃ad vs n,va=.ref ad/\s.heap.get? ad=some (By (az vs) n)/\RepL S.cv s.heap (F.D V) l vs:=by
  refine X3pppp ra.inv λa b c e f Z r=>?_;exact⟨a,b,c,e,f,r⟩
 have hL:s.heap.IsTuple ad vs.toArray:=⟨_,e,rfl,n,rfl⟩;refine wpAny_pyIter_tuple hL ⟨s.heap.objs.size,(·=s.heap.objs.size),λAU i V' s'=>s'.heap.IsTupleIter s.heap.objs.size ad i/\Rep S.cv s'.heap (AU.D V') (.tup l) (.ref ad),rfl,?_,Ax _ _,⟨_,_,rfl⟩,λb q=>by rw[q];exact AB _,?_⟩
 .have y:∀i (s':af),s'.heap.IsTupleIter s.heap.objs.size ad i->Its s'.heap (·=s.heap.objs.size):=by
   intro i s' hR1 b hR2;refine X1ppp hR1 λo e c d=>?_;subst hR2;exact⟨o,e,⟨_,c,by decide,by decide⟩,_,d⟩
  intro AU;refine⟨λi V' s' U=>y i s' U.1,λi Aq As Aa Ac Ab Aj O hO hN U Ad st Ah o=>⟨?_,U.2.step st hO Ad.pN⟩,λi x Aq Aa Ac GA Q X hx Ad U hQ=>?_,λi Aa Ac Q X U hQ=>wpAny_pyIter_tupleiter U.1 hQ,λAq Aa Ac Q X Ad U hQ=>?_⟩
  .have z:=y i Ac U.1
   refine X1ppp U.1 λo e c d=>?_;exact⟨o,z.still Ad hO hN st rfl e,c,d⟩
  .refine Ao U λB u=>?_
   .refine X3pppp u.inv λZ ws n' e0 e' d Y=>?_
    obtain rfl:=bG e0;refine X1pp (Y.get hx) λv hv rv=>?_;have z:=y i Ac B;refine wpAny_pyNext_tuple_item B (items:=ws.toArray) ⟨_,e',rfl,n',rfl⟩ (x:=v) (by simpa using hv) λh' T hsb=>?_
    have ist:ItStep (·=s.heap.objs.size) Ac { Ac with heap:=h' }:=⟨λb o q e=>hsb.extBut b o q e,rfl,rfl,rfl⟩
    refine X1ppp (id T) λo eo co Z=>?_;exact Bf eo co (by decide) (hQ v _ ist (rv.it z ist.keep) ⟨T,u.it z ist.keep⟩)
  .refine Ao U λB u=>?_
   .refine X3pppp u.inv λZ ws n' e0 e' d Y=>?_
    obtain rfl:=bG e0;exact wpAny_pyNext_tuple_end (AU.room.quiet hq) B (items:=ws.toArray) ⟨_,e',rfl,n',rfl⟩ (by simp[Y.length]) λh' he=>hQ _ ⟨λb o q e=>he b o q e,rfl,rfl,rfl⟩
 .intro AU Ab Aj kp hD ks
  exact⟨⟨_,kp _ _ (aD _ rfl),rfl,rfl⟩,(grown hs ra).ext (Ext.of_keeps kp) hD⟩
noncomputable def C8(x:Str):List AV:=x.cps.toList.map λc=>.str ⟨#[c]⟩
theorem IterT.str(hq:S.hx=aa){x:Str}(ha:x.cps.all (·<128)=true):IterT F V (.str x) (C8 x) (λZ Z=>True):=by
 intro m va s t X hs ra;refine X1l va ra.inv λtk=>?_;refine wpAny_pyIter_ascii ha ⟨s.heap.objs.size,(·=s.heap.objs.size),λAU i V' s'=>s'.heap.IsStrIter s.heap.objs.size "str_ascii_iterator" x tk i,rfl,?_,Ax _ _,⟨_,_,rfl⟩,λb q=>by rw[q];exact AB _,?_⟩
 .have u:∀i (s':af),s'.heap.IsStrIter s.heap.objs.size "str_ascii_iterator" x tk i->Its s'.heap (·=s.heap.objs.size):=by
   intro i s' hR1 b hR2;refine X1ppp hR1 λo e c d=>?_;subst hR2;exact⟨o,e,⟨_,c,by decide,by decide⟩,_,d⟩
  intro AU;refine⟨λi V' s' U=>u i s' U,λi Aq As Aa Ac Ab Aj O hO hN U Ad st Ah o=>?_,λi y Aq Aa Ac GA Q X hx Ad U Y=>?_,λi Aa Ac Q X U Y=>wpAny_pyIter_striter_ascii U Y,λAq Aa Ac Q X Ad U Y=>?_⟩
  .have z:=u i Ac U
   refine X1ppp U λo e c d=>?_;exact⟨o,z.still Ad hO hN st rfl e,c,d⟩
  .have z:=u i Ac U
   simp only[C8,aT,aU,Array.getElem?_toList]at hx;refine X1pp hx λc hc Z0=>?_;clear hx;subst Z0;refine wpAny_pyNext_ascii_item U (c:=c) hc λh' T hsb=>?_;have B:ItStep (·=s.heap.objs.size) Ac { Ac with heap:=h',toks:=Ac.toks+1 }:=⟨λb o q e=>hsb.extBut b o q e,rfl,rfl,rfl⟩
   refine X1ppp (id T) λo eo co Z=>?_;exact Bf eo co (by decide) (Y _ _ B (.str _ _) T)
  .exact wpAny_pyNext_ascii_end (AU.room.quiet hq) U (by simp[C8]) λh' he=>Y _ ⟨λb o q e=>he b o q e,rfl,rfl,rfl⟩
 .intro AU Ab Aj kp hD ks
  exact⟨_,kp _ _ (aD _ rfl),rfl,rfl⟩
theorem RepD.get{cv:Nat->Value}{h:Heap}{D:Addr->Prop}{l:List (Ag×AV)}{es:List aO}{i:Nat}{k:Ag}{x:AV}(r:RepD cv h D l es)(q:l[i]?=some (k,x)):∃e,es[i]?=some e/\Rep cv h D (sp k) e.key/\Rep cv h D x e.val:=by
 induction l generalizing es i with
 |nil=>exact(Am gG q).elim
 |cons p l y =>
  refine X6lpppp es r.inv λt B T n v z e d a b=>?_
  cases i with
  |zero=>obtain rfl:p=(k,x):=ae q;exact⟨_,rfl,.tup (vs:=[_,_]) e d (.cons (.int _ _) (.cons (.int _ _) .nil)),a⟩
  |succ i=>exact y (es:=z) (i:=i) b q
theorem RepD.length{cv:Nat->Value}{h:Heap}{D:Addr->Prop}{l:List (Ag×AV)}{es:List aO}(r:RepD cv h D l es):es.length=l.length:=by
 induction l generalizing es with|nil=>rw[show es=[] from r.inv];rfl|cons p l y=>refine X6lpppp es r.inv λt B T n v z Z Z Z b=>?_;exact congrArg fS (y b)
theorem Rep.dctE{a:AV}{l:List (Ag×AV)}{v:Value}(r:Rep S.cv s.heap (F.D V) a v)(hs:F.St m V s)(h:dd V a=some l) :
  ∃ad es n,v=.ref ad/\DictE s.heap ad (az es) n/\(ad == cL)=false/\RepD S.cv s.heap (F.D V) l es:=by
 refine X3lpppp v (r.dct hs.inv h) λad es n e u y U=>?_;exact⟨ad,es,n,rfl,e,u,U⟩
theorem IterT.dict(hq:S.hx=aa){l:List (Ag×AV)}:IterT F V (.dict l) (l.map λp=>sp p.1) (λZ Z=>True):=by
 intro m va s t X hs ra;refine X3lppppp va ra.inv λad es n e d sm nd rd=>?_;have hE:DictE s.heap ad es.toArray n:=e;refine It sm hE ⟨s.heap.objs.size,(·=s.heap.objs.size),λAU i V' s'=>s'.heap.IsKeyIter s.heap.objs.size ad i es.toArray.size n/\DictE s'.heap ad es.toArray n/\¬AU.D V' ad/\RepD S.cv s'.heap (AU.D V') l es,rfl,?_,Ax _ _,⟨_,_,rfl⟩,λb q=>by rw[q];exact AB _,?_⟩
 .have its:∀i (s':af),s'.heap.IsKeyIter s.heap.objs.size ad i es.toArray.size n->Its s'.heap (·=s.heap.objs.size):=by
   intro i s' hR1 b hR2;refine X1ppp hR1 λo e c d=>?_;subst hR2;exact⟨o,e,⟨_,c,by decide,by decide⟩,_,d⟩
  intro AU;refine⟨λi V' s' U=>its i s' U.1,λi Aq As Aa Ac Ab Aj O hO hN U Ad st Ah o=>⟨?_,?_,?_,U.2.2.2.step st hO Ad.pN⟩,λi x Aq Aa Ac GA Q X hx Ad U hQ=>?_,λi Aa Ac Q X U hQ=>wpAny_pyIter_keyiter U.1 hQ,λAq Aa Ac Q X Ad U hQ=>?_⟩
  .have z:=its i Ac U.1
   refine X1ppp U.1 λo e c d=>?_;exact⟨o,z.still Ad hO hN st rfl e,c,d⟩
  .exact st.ext.obj _ _ U.2.1 (λq=>U.2.2.1 (q.imp id λq=>q.elim (hO _) (Ad.pN _)))
  .intro q
   rcases q with q|q
   .rcases st.dom _ q with z|z
    .exact U.2.2.1 (.inl z)
    .have:=U.2.1;unfold DictE at this;rw[z]at this;exact nS this
   .exact U.2.2.1 (.inr q)
  .refine B5 U λY u nD T=>?_
   simp only[aT,aU]at hx;obtain⟨⟨k,y⟩,hl,rfl⟩:=hx;refine X1ppp (T.get hl) λen he rk Z=>?_;have z:=its i Ac Y;refine Ir Y u (e:=en) (by simpa using he) λh' hit' hsb=>?_
   have B:ItStep (·=s.heap.objs.size) Ac { Ac with heap:=h' }:=⟨λb o q e=>hsb.extBut b o q e,rfl,rfl,rfl⟩
   refine X1ppp (id hit') λo eo co Z=>?_;refine Bf eo co (by decide) (hQ _ _ B (rk.it z B.keep) ⟨hit',B.keep _ _ (z.seq u (by intro _ h;exact nDf rfl h)) u,nD,T.it z B.keep⟩)
  .refine B5 U λY u nD T=>?_
   exact LF (AU.room.quiet hq) Y u (by simp[T.length]) λh' he=>hQ _ ⟨λb o q e=>he b o q e,rfl,rfl,rfl⟩
 .intro AU Ab Aj kp hD ks
  refine Ao (hs.grow (Ax s.heap { cls:=.type "dict_keyiterator",data:=.fields #[.ref ad,.int 0 0,.int es.toArray.size 0,.int n 0] }) s.toks) λh1 st=>?_;exact⟨⟨_,kp _ _ (aD _ rfl),rfl,rfl⟩,kp _ _ (au _ hE),(λq=>(hD _ q).elim d λz=>by rw[au _ e]at z;exact nS' z),(rd.step st.any h1.own h1.pN).ext (Ext.of_keeps kp) hD⟩
noncomputable def Bb(a b c:Int):Nat:=(aN a b c).toNat
theorem IterT.range{a b c:Int}(hsm:cu a b c=true):IterT F V (.range a b c) (AW a c (Bb a b c)) (λZ Z=>True):=by
 intro m va s t X hs ra;refine X4lpp va ra.inv λr tk1 tk2 tk3 e d=>?_;have sz:0<=aN a b c:=by
  unfold aN
  split
  .split
   .have:0<=(b - a - 1) / c:=Int.ediv_nonneg (by omega) (by omega)
    exact lin [] [(b - a - 1) / c] (.f K0 (.A V0 K1)) [.f K0 V0] rfl this
   .exact lin [] [] (.f K0 K0) [] rfl
  .split
   .have:0<=(a - b - 1) / -c:=Int.ediv_nonneg (by omega) (by omega)
    exact lin [] [(a - b - 1) / -c] (.f K0 (.A V0 K1)) [.f K0 V0] rfl this
   .exact lin [] [] (.f K0 K0) [] rfl
 refine wpAny_pyIter_range (t:=tk1) (u:=tk2) (v:=tk3) e hsm ⟨s.heap.objs.size,(·=s.heap.objs.size),λAU i V' s'=>gF s'.heap s.heap.objs.size (a+c * i) (aN a b c - i) c,rfl,?_,Ax _ _,⟨_,_,rfl⟩,λb q=>by rw[q];exact AB _,?_⟩
 .have B:∀(i:Nat)(s':af),gF s'.heap s.heap.objs.size (a+c * i) (aN a b c - i) c->Its s'.heap (·=s.heap.objs.size):=by
   rintro i s' e b rfl
   exact⟨_,e,⟨_,rfl,by decide,by decide⟩,_,rfl⟩
  have len:(AW a c (Bb a b c)).length=Bb a b c:=by simp[AW]
  intro AU;refine⟨λi V' s' U=>B i s' U,λi Aq As Aa Ac Ab Aj O hO hN U Ad st Ah o=>?_,λi y Aq Aa Ac GA Q X hx Ad U hQ=>?_,λi Aa Ac Q X U hQ=>wpAny_pyIter_rangeiter U hQ,λAq Aa Ac Q X Ad U hQ=>?_⟩
  .exact(B i Ac U).still Ad hO hN st rfl U
  .have z:=B i Ac U
   simp only[AW,aT,aU]at hx;refine X1pp hx λj hj Z0=>?_;clear hx;subst Z0;have Y:i<Bb a b c:=by
    rcases bL i (Bb a b c)with q|q
    .exact q
    .rw[aX (by simpa using q)]at hj;exact nS hj
   have:j=i:=by rw[List.getElem?_range Y]at hj;exact(ae hj).symm
   subst this;refine wpAny_pyNext_range_item U (by unfold Bb at Y;exact lin [j,(aN a b c).toNat] [aN a b c] (.g K0 (.S V0 (.c V0))) [.c V0 V1,.h (.c V1) V0] rfl Y (ao (lin [] [aN a b c] (.f K0 V0) [.f K0 V0] rfl sz))) λh' T hsb=>?_
   have ist:ItStep (·=s.heap.objs.size) Ac { Ac with heap:=h',toks:=Ac.toks+1 }:=⟨λb o q e=>hsb.extBut b o q e,rfl,rfl,rfl⟩
   refine Bf T rfl (by decide) (hQ _ _ ist (.int _ _) ?_)
   show gF h' _ _ _ _;have e1:a+c * ((j+1:Nat):Int)=a+c * j+c:=by rw[Int.natCast_add,Int.mul_add];simp[dJ]
   have e2:aN a b c - ((j+1:Nat):Int)=aN a b c - j - 1:=by exact ai (lin [j] [aN a b c] (.f (.S V0 (.c (.A V0 K1))) (.S (.S V0 (.c V0)) K1)) [] rfl) (lin [j] [aN a b c] (.f (.S (.S V0 (.c V0)) K1) (.S V0 (.c (.A V0 K1)))) [] rfl)
   rw[e1,e2];exact T
  .refine Kc AU.room.hh (λx hx=>by refine X2pp (S.hxo x hx) λo vs e r=>?_;exact⟨o,vs,Ad.inv.keep _ _ e,r⟩) U ?_ λh' he=>hQ _ ⟨λb o q e=>he b o q e,rfl,rfl,rfl⟩
   rw[len];unfold Bb;exact lin [(aN a b c).toNat] [aN a b c] (.f (.S V0 (.c V0)) K0) [.f V0 (.c V0)] rfl (aI (aN a b c))
 .intro AU Ab Aj kp hD ks
  show gF _ _ _ _ _
  have:=kp _ _ <| aD s.heap (o:={ cls:=.type "range_iterator",data:=.fields #[dL a,dL (aN a b c),dL c] }) rfl
  simpa using this
theorem DP{h':Heap}{tk:Nat}{r:Addr}{a b c:Int}{t u v:Tok}(hs:F.St m V s)(k:∀b o,s.heap.get? b=some o->h'.get? b=some o)(ha:s.heap.get? r=aa)
  (e:h'.get? r=some (HG a b c t u v)) (q:Q (.range a b c) V) :
  PW F m V s (PV F Q) (.ref r) { s with heap:=h',toks:=tk }:=by
 refine Ao (hs.grow k tk) λY st=>?_;exact⟨V,st.any,Y,_,.range e (hs.inv.not_D ha),q⟩
theorem CT.range1{n:Int}(h:Q (.range 0 n 1) V):CT F m V (.type "range") [.int n] Q X:=by
 intro U s hs r;refine X1lp U r.one λv z=>?_;refine X1l v z.inv λZ=>?_;exact call_range_1 (DP (tk:=s.toks+1+1) hs (Ax _ _) (AB _) (IsRange.new ..) h)
theorem CT.range2{a b:Int}(h:Q (.range a b 1) V):CT F m V (.type "range") [.int a,.int b] Q X:=by
 intro U s hs r;refine X2lpp U r.two λv u y T=>?_;refine X1l v y.inv λZ=>?_;refine X1l u T.inv λZ=>?_;exact call_range_2 (DP (tk:=s.toks+1) hs (Ax _ _) (AB _) (IsRange.new ..) h)
theorem CT.range3{a b c:Int}(d:c≠0)(Y:c.natAbs<1073741824)(h:Q (.range a b c) V):CT F m V (.type "range") [.int a,.int b,.int c] Q X:=by
 intro U s hs r
 .obtain⟨_,_,rfl,u,r⟩:=r.inv
  obtain⟨_,_,rfl,T,B⟩:=r.two;refine X1p u.inv λZ y=>?_;clear u r;subst y;refine X1p T.inv λZ z=>?_;clear r T;subst z;refine X1p B.inv λZ O=>?_;subst O
  ·.exact call_range_3 d (DP (tk:=s.toks) hs (Ax _ _) (AB _) (IsRange.new ..) h) (.inl (PyProof.noPylong_small Y))
end
end
section
variable {S:Sta}
section
variable {F:Fx S}{m m':Vars}{V V':Store}{s s':af}{X:Value->af->Prop}{Q:AV->Store->Prop}{K:Fl->Vars->Store->Prop}
def Tgt(p:Pat)(t:aj):Prop:=match p with
 |.tup _=>∃es k q,t=.Tuple es k q
 |_=>True
theorem CP.tgt{tb:List Nat}{sc:Nms}{t:aj}{p:Pat}(h:CP tb sc t p):Tgt p t:=by
 cases p with|v=>trivial|tup=>refine X3lp t h λZ Z Z Z=>?_;exact⟨_,_,_,rfl⟩
inductive PSrc(F:Fx S)(m:Vars)(V:Store)(s:af)(t:aj)(G:List AV->(Store->Store->Prop)->Store->Prop)(it:Value)(Aj:af):Prop
 |mk (I:Addr) (items:List AV) (W:Addr->Prop) (J:Fx S->Nat->Store->af->Prop) (ok:Store->Store->Prop) (Ab:Store) (sm:af) (hit:it=.ref I) (wk:∀AU:Fx S,Walk AU I items t W (J AU) ok) (st:Step F.P F.O V s Ab sm) (hm:F.St m Ab sm)
  (st':Step noO noO Ab sm Ab Aj) (h:F.St m Ab Aj) (nw:∀a,W a->sm.heap.get? a=aa) (mv:Moves F Ab Aj J) (g:G items ok Ab):PSrc F m V s t G it Aj
def SrcT(F:Fx S)(m:Vars)(V:Store)(p:Pat)(e:E)(G:List AV->(Store->Store->Prop)->Store->Prop)(X:Value->af->Prop):Prop :=
 ∀pe t,CE F.tb F.sc pe e->Tgt p t->∀s,F.St m V s ->
  wpAny (model S.prog S.w) F.A (eval pe F.env) (λx Ac=>wpAny (model S.prog S.w) F.A (pyIter x) (PSrc F m V s t G) X Ac) X s
theorem SrcT.val{p:Pat}{e:E}{G:List AV->(Store->Store->Prop)->Store->Prop}(h:ET F m V e (λa Aa=>∃items ok,IterT F Aa a items ok/\G items ok Aa) X):SrcT F m V p e G X:=by
 intro pe t O hp s hs;refine(h pe O s hs).out ?_;intro v Aa Ac Ai y u;obtain⟨a,z,items,ok,T,Y⟩:=u;refine aJ (T m v Ac t X y z) ?_ λZ Z e=>e;intro it Aj u;obtain⟨I,W,J,rfl,U,d,⟨h',tk,rfl⟩,B,hJ⟩:=u;refine Ao (y.grow d tk) λAh st=>?_;exact⟨I,items,W,J,ok,Aa,Ac,rfl,U,Ai,y,st,Ah,B,hJ,Y⟩
theorem Gb{e:aj}{env:Env}(h:Bd e=true):∀x,foldedSetIterable e env x=pure x:=by
 intro x;cases e<;>first|rfl|exact nF h
theorem ST.for_{p:Pat}{e:E}{body:List Internal.S}(hX:gU (model S.prog S.w) F.A F.env X)(h:SrcT F m V p e (λitems ok Aa=>L8 F p body ok K X items m Aa) X):ST F m V (.for_ p e body) K X:=by
 intro ps hc s hs;refine X4lpppp ps hc.inv λZ Z Z Z O d he hb=>?_;refine wpAny_For (aJ (h _ _ he d.tgt s hs) ?_ λZ Z e=>e) (Gb O);intro x Ac Ad;refine aJ Ad ?_ λZ Z e=>e;intro it Aj u;obtain⟨I,items,W,J,ok,Ab,sm,rfl,U,st,hm,T,Ah,B,hJ,hl⟩:=u;have Y:∀a,W a->s.heap.get? a=aa:=λa q=>st.new (B a q);replace st:=st.trans T.any;refine dG (forLoopT (U F) hX d hb Y st Ah (λa q=>?_) (λa q n=>?_) hJ.here hl) λr s' x=>?_
 .cases z:F.b.2.heap.get? a with|none=>rfl|some o=>refine X1p (hs.frm.there a o z) λo' y=>?_;rw[Y a q]at y;exact nS y
 .refine X1pp (hs.inv.Nin a n) λo y nf=>?_;rw[Y a q]at y;exact nS y
 .cases r<;>exact x
set_option tactic.hygienic true in
theorem ST.while_{c:E}{body:List Internal.S}(hX:gU (model S.prog S.w) F.A F.env X)(I:Nat->Vars->Store->Prop)
  (turn:∀n m V,I n m V->TT F m V c (λt Aa=>if t then SsT F m Aa body (λfl As z=>match fl with
   |.next=>∃Y,Y<n/\I Y As z
   |.ret v=>K (.ret v) As z) X else K .next m Aa) X) (n:Nat) (h:I n m V):ST F m V (.while_ c body) K X:=by
 intro ps U s hs;have O:=U.inv;clear U;refine X3lpp ps O λZ Z Z U hb=>?_;refine wpAny_While (codeAny_whileLoop (λn=>PP F V s (I n)) ?_ n ⟨m,V,Step.refl _ _ _ _,hs,h⟩);intro n Ac T;obtain⟨Aq,Aa,Ai,Ad,hI⟩:=T;refine f6 hX ((turn n Aq Aa hI _ U Ac Ad).out ?_)
 rintro b z Aj An Ah q
 cases b with
 |true =>
  simp only[if_true]at q ⊢;refine f6 hX (aJ (q _ hb Aj Ah) ?_ λZ Z e=>e);intro f BI T;obtain⟨fl,d,Ar,A0,AS,B,q'⟩:=T;have y:=(Ai.trans An).trans A0
  cases fl with
  |next =>
   cases f with
   |next=>refine X1pp q' λY hn hI'=>?_;exact⟨Y,hn,d,Ar,y,AS,hI'⟩
   |_=>exact B.elim
  |ret v =>
   cases f with|ret u=>exact⟨.ret v,d,Ar,y,AS,B,q'⟩|_=>exact B.elim
 |false =>
  simp only[cg,if_false]at q ⊢;exact f5 ⟨.next,Aq,z,Ai.trans An,Ah,trivial,q⟩
def PTs(F:Fx S)(X:Value->af->Prop)(K:Vars->Store->Prop):List Pat->List AV->Vars->Store->Prop
 |[],[],m,V=>K m V
 |p::ps,a::as,m,V=>PT F m V p a (λAq Aa=>PTs F X K ps as Aq Aa) X
 |_,_,_,_=>False
theorem Gf{e:aj}{r:List aj}{env:Env}(h:Bc e=true):assignEach (e::r) env=(false,assign e env)::assignEach r env:=by
 cases e<;>first|rfl|exact nF h
theorem Io:∀{z:List Pat}{es:List aj},CPs F.tb F.sc es z->(assignEach es F.env).length=z.length/\(assignEach es F.env).findIdx? (·.1)=none:=by
 intro z
 induction z with
 |nil=>intro es d;obtain rfl:=d.inv_nil;exact⟨rfl,rfl⟩
 |cons q z y =>
  intro es d;refine X2lppp es d.inv λZ Z B u U=>?_;refine Ao (y U) λO T=>?_;rw[Gf B];refine⟨by rw[aK,aK,O],?_⟩
  rw[List.findIdx?_cons];simp[T]
theorem PTs.run{K:Vars->Store->Prop}:∀{ps:List Pat}{as:List AV}{B:List aj}{vs:List Value}{m:Vars}{V:Store}{s:af} ,PTs F X K ps as m V->CPs F.tb F.sc B ps->RepL S.cv s.heap (F.D V) as vs->F.St m V s ->
  wpAny (model S.prog S.w) F.A (assignInOrder ((assignEach B F.env).map (·.2)) vs) (λZ=>PP F V s K) X s:=by
 intro ps
 induction ps with
 |nil =>
  intro as B vs m V s h d r hs;obtain rfl:=d.inv_nil
  cases as with|nil=>rw[show vs=[] from r.inv];exact wpAny_assignInOrder_none ⟨m,V,Step.refl _ _ _ _,hs,h⟩|cons=>exact h.elim
 |cons p ps U =>
  intro as B vs m V s h d r hs;refine X2lppp B d.inv λe rr hn O z=>?_;rw[Gf hn]
  cases as with
  |nil=>exact h.elim
  |cons a as =>
   .obtain⟨v,vs,rfl,Y,r⟩:=r.inv
    refine eO (aJ (h e O v s hs Y) ?_ λZ Z e=>e);intro _ Ac u;obtain⟨Aq,Aa,T,y,q⟩:=u;refine aJ (U q z (r.st T y) y) ?_ λZ Z e=>e;intro _ Aj u;obtain⟨As,Ab,An,Ah,Bn⟩:=u;exact⟨As,Ab,T.trans An,Ah,Bn⟩
theorem G9{h':Heap}(hs:F.St m V s)(k:dn s.heap.objs.size s.heap h'):F.St m V { s with heap:=h' }/\Step F.P F.O V s V { s with heap:=h' }:=by
 refine Ao (hs.grow (h':=h') (λb o e=>k b o (bO (bc e)) e) s.toks) λY st=>?_;exact⟨Y,st.any⟩
theorem PT.tup(hq:S.hx=aa){ps:List Pat}{l:List AV}{K:Vars->Store->Prop}(U:ps.length=l.length)(h:PTs F X K ps l m V):PT F m V (.tup ps) (.tup l) K X:=by
 intro pe B v s hs r;have y:=B.inv;clear B;obtain⟨_,_,_,rfl,B⟩:=y
 .obtain⟨ad,vs,n,rfl,e,d,r⟩:=r.inv
  have ht:s.heap.IsTuple ad vs.toArray:=⟨_,e,rfl,n,rfl⟩;obtain⟨O,T⟩:=Io B;refine wpAny_assign_Tuple (F.room.quiet hq) ht (by rw[O,U,aF,r.length]) T λh' k=>?_
  obtain⟨Y,st⟩:=G9 hs k;refine aJ (h.run B (r.st st Y) Y) ?_ λZ Z e=>e;intro _ Aj u;obtain⟨As,Ab,An,Ah,z⟩:=u;exact⟨As,Ab,st.trans An,Ah,z⟩
theorem PT.list(hq:S.hx=aa){ps:List Pat}{l:List AV}{K:Vars->Store->Prop}(U:ps.length=l.length)(h:PTs F X K ps l m V):PT F m V (.tup ps) (.list l) K X:=by
 intro pe B v s hs r;have y:=B.inv;clear B;obtain⟨_,_,_,rfl,B⟩:=y;refine X3lppp v r.inv λad vs n e d r=>?_;have ht:s.heap.IsList ad vs.toArray:=⟨_,e,rfl,n,rfl⟩;obtain⟨O,T⟩:=Io B;rw[arm_assign_Tuple];refine ac (cX ?_);unfold unpack;rw[T,O,U,<- r.length,<- aF];refine ac (bI (kun_itemsOf (F.room.quiet hq) ht λh' k=>?_));obtain⟨Y,st⟩:=G9 hs k;refine aJ (h.run B (r.st st Y) Y) ?_ λZ Z e=>e;intro _ Aj u;obtain⟨As,Ab,An,Ah,z⟩:=u;exact⟨As,Ab,st.trans An,Ah,z⟩
theorem FN{T:List aj}{k:Nat}{tp:Pos}{pe:aj}{e:E}{env:Env}{tb:List Nat}{sc:Nms}(hc:CE tb sc pe e)(h:FZ e=true):eQ [.Tuple T k tp] pe env=pure none:=by
 replace hc:=hc.un;unfold FZ at h;generalize e.un=e at hc h;replace hc:=hc.1;unfold Kr at h;rw[<- hc]at h
 cases pe<;>first|rfl|exact(aQ h).elim
theorem pats_len:∀{z:List Pat}{es:List aj}{tb:List Nat}{sc:Nms},CPs tb sc es z->es.length=z.length:=by
 intro z
 induction z with
 |nil=>intro es tb sc h;rw[h.inv_nil];rfl
 |cons q z y =>
  intro es tb sc h;refine X2lppp es h.inv λZ Z Z Z d=>?_;rw[aK,aK,y d]
theorem FP{T:List aj}{k:Nat}{tp:Pos}{pe:aj}{env:Env}(h:4<=T.length):eQ [.Tuple T k tp] pe env=pure none:=by
 have e:(!(T.length == 2 || T.length == 3))=true:=by
  rw[beq_eq_false_iff_ne.mpr (show T.length≠2 by exact λz=>lin [T.length] [] .no [.b K4 V0,.d V0 K2] rfl h z),beq_eq_false_iff_ne.mpr (show T.length≠3 by exact λz=>lin [T.length] [] .no [.b K4 V0,.d V0 K3] rfl h z)];rfl
 unfold eQ
 cases pe with
 |Tuple vs a b =>
  dsimp only;rw[if_pos (by rw[e];rfl)]
 |_=>rfl
set_option tactic.hygienic true in
theorem ST.unpack{ps:List Pat}{e:E}(hn:FZ e=true\/4<=ps.length)(y:AK e=true)(h:ET F m V e (λa Aa=>PT F m Aa (.tup ps) a (λd T=>K .next d T) X) X):ST F m V (.assign (.tup ps) e) K X:=by
 intro st hc s hs;refine X3lpp st hc.inv λZ Z Z B O=>?_;have Y:=B;refine X3pp Y.inv λZ Z Z Z0 z=>?_;clear Y;subst Z0;refine Assign_Tuple ((h _ O s hs).out ?_) (by unfold swapsWithSole;exact Ca O y) (hn.elim (FN O) λq=>FP (by rw[pats_len z];exact q))
 intro v Aa Ac Ai Ad u;obtain⟨a,U,q⟩:=u;refine aJ (q _ B v Ac Ad U) ?_ λZ Z e=>e;intro _ Aj u;obtain⟨d,T,An,Ah,Bn⟩:=u;exact⟨.next,d,T,Ai.trans An,Ah,trivial,Bn⟩
noncomputable def DQ:Nat->E->Bool
 |_,.v _=>true
 |n+1,.bin _ l r=>DQ n l || DQ n r
 |n+1,.tup es=>es.any (DQ n)
 |_,_=>false
theorem F0{tb:List Nat}{sc:Nms}:∀{n:Nat}{pe:aj}{e:E},CE tb sc pe e->DQ n e=true->dN n pe=false:=by
 intro n
 induction n with
 |zero =>
  intro pe e d h
  cases e<;>first|exact(aQ h).elim|skip
  refine X2lp pe d.inv λZ Z u=>?_;exact A8 u.ok
 |succ n y =>
  intro pe e d h
  cases e with
  |v =>
   refine X2lp pe d.inv λZ Z u=>?_;exact A8 u.ok
  |bin op l r =>
   refine X3lpp pe d.inv λZ Z Z T Y=>?_;exact fF.mpr ((dc.mp h).imp (y T) (y Y))
  |tup es =>
   refine X3lp pe d.inv λB Z Z O=>?_;change es.any (DQ n)=true at h;show B.all (dN n)=false;clear d
   induction es generalizing B with
   |nil=>exact(aQ h).elim
   |cons e es z =>
    have U:=O;clear O;refine X2lppp B U λZ Z hn O Y=>?_;exact fF.mpr ((dc.mp h).imp (y O) λh=>z _ Y h)
  |_=>exact(aQ h).elim
theorem set_swap(m:Vars){i j:Nat}(a b:AV)(h:i≠j):(m.set i a).set j b=(m.set j b).set i a:=by
 funext k
 unfold Vars.set
 by_cases Y:k=j
 .subst Y;simp[d0 h]
 .simp[Y]
set_option tactic.hygienic true in
theorem sw2{env:Env}{x1 x2:Str}{p1 p2 tp p:Pos}{k kk:Nat}{y d:aj}(O:env.blockKind=.function)
  (Y:(dN 8 y && dN 8 d)=false) :
  eQ [.Tuple [.Name x1 p1,.Name x2 p2] k tp] (.Tuple [y,d] kk p) env=pure none\/eQ [.Tuple [.Name x1 p1,.Name x2 p2] k tp] (.Tuple [y,d] kk p) env=pure (some [x1,x2]):=by
 have u:List.all [y,d] (dN 8)=false:=by simpa[Bool.and_true]using Y
 unfold eQ;simp only[u,O];generalize hf:List.filterMap _ _=ns;have key:ns.length=2->ns=[x1,x2]:=by
  rw[<- hf];simp only[List.filterMap_cons,List.filterMap_nil]
  split<;>split<;>rename_i a b<;>(try (intro h;simp at h;done))
  rename_i z B
  intro _
  split at z<;>cases z
  split at b<;>cases b
  rfl
 clear hf;generalize List.any [y,d] _=b0;generalize List.all [y,d] (foldedForSure 8)=b1
 cases b0 with
 |true=>left;rfl
 |false =>
  cases b1 with
  |true =>
   left
   by_cases q:(ns.length != 2 || ns.eraseDups.length != ns.length)=true
   .simp only[aK,c9,q];rfl
   .simp only[aK,c9,q];rfl
  |false =>
   by_cases q:(ns.length != 2 || ns.eraseDups.length != ns.length)=true
   .left;simp only[aK,c9,q];rfl
   .right
    have:ns.length=2:=by
     simp only[eh,bne_iff_ne,ne_eq,not_or,Decidable.not_not]at q;exact q.1
    simp only[aK,c9,q];rw[key this]
    rfl
theorem unpack2(hq:S.hx=aa){i j:Nat}{x1 x2:Str}{x y:AV}{v:Value}(hij:i≠j)(hf1:F.sc.lookup x1≠some .free)(U:IsV F.tb F.sc x1 i)(hf2:F.sc.lookup x2≠some .free)(u:IsV F.tb F.sc x2 j)(hs:F.St m V s)
  (ra:Rep S.cv s.heap (F.D V) (.tup [x,y]) v):wpAny (model S.prog S.w) F.A (unpackItems v 2 none) (λitems Aj =>
   wpAny (model S.prog S.w) F.A (assignInOrder [bindName F.env x2,bindName F.env x1] items.reverse) (λZ s'=>Step F.P F.O V s V s'/\F.St ((m.set i x).set j y) V s') X Aj) X s:=by
 .refine X3lppp v ra.inv λad vs n e d r=>?_
  refine X2ppp r.two λz Y Z0 r1 r2=>?_;clear r;subst Z0;have ht:s.heap.IsTuple ad #[z,Y]:=⟨_,e,rfl,n,rfl⟩;refine wpAny_unpackItems_tuple (items:=#[z,Y]) (F.room.quiet hq) ht λh' kx=>?_;refine Ao (G9 hs kx) λB T=>?_;show wpAny _ _ (assignInOrder [bindName F.env x2,bindName F.env x1] [Y,z]) _ _ _;refine eO (wpAny_bindName (BJ hf2 u B (r2.st T B) λAj An Ah=>?_));refine eO (wpAny_bindName (BJ hf1 U Ah ((r1.st T B).st An Ah) λBI A0 AS=>?_));refine wpAny_assignInOrder_none ⟨(T.trans An).trans A0,?_⟩;rw[set_swap _ _ _ hij];exact AS
set_option tactic.hygienic true in
theorem ST.assign2(hq:S.hx=aa){i j:Nat}{e1 e2:E}(B:i≠j)(hn:(DQ 8 e1 || DQ 8 e2)=true)(h:ET F m V e1 (λx Aa=>ET F m Aa e2 (λy T=>K .next ((Vars.set m i x).set j y) T) X) X) :
  ST F m V (.assign (.tup [.v i,.v j]) (.tup [e1,e2])) K X:=by
 intro st hc s hs;refine X3lpp st hc.inv λZ Z Z hp he=>?_;have ev:ET F m V (.tup [e1,e2]) (λa Aa=>∃x y,a=.tup [x,y]/\K .next ((Vars.set m i x).set j y) Aa) X :=
  ET.tup (EsT.cons (h.mono λx Aa q=>EsT.cons (q.mono λy T q=>EsT.nil ⟨by show 2<=big;decide,x,y,rfl,q⟩)))
 have Y:=hp;refine X3pp Y.inv λts k tp Z0 z=>?_;clear Y;subst Z0
 ···.obtain⟨t1,_,rfl,n1,hp1,z⟩:=z.inv
     obtain⟨t2,_,rfl,n2,hp2,z⟩:=z.inv;obtain rfl:=z.inv_nil;refine X2ppp hp1.inv λx1 p1 Z1 hf1 d=>?_;subst Z1;refine X2ppp hp2.inv λx2 p2 Z2 hf2 O=>?_;subst Z2;have hne:x1≠x2:=by
      rintro rfl
      have:=d.ix
      rw[O.ix]at this;exact B (ae this).symm
     have he':=CE.inv he
     ··.obtain⟨pes,kk,p,rfl,U⟩:=he'
        obtain⟨pa,_,rfl,m1,ha,U⟩:=U.inv;obtain⟨pb,_,rfl,m2,hb,U⟩:=U.inv;obtain rfl:=U.inv_nil;have bk:F.env.blockKind=.function:=by unfold Env.blockKind;rw[F.fk];rfl
        have c2:(dN 8 pa && dN 8 pb)=false:=by
         simp only[eh]at hn;simp only[fF];exact hn.imp (F0 ha) (F0 hb)
        rcases sw2 (x1:=x1) (x2:=x2) (p1:=p1) (p2:=p2) (tp:=tp) (p:=p) (k:=k) (kk:=kk) bk c2 with sw|sw
        .refine Assign_Tuple ((ev _ he s hs).out ?_) (by unfold swapsWithSole;exact Ca he rfl) sw
         intro v Aa Ac Ai Ad u;obtain⟨a,ra,x,y,rfl,q⟩:=u;have pt:PT F m Aa (.tup [.v i,.v j]) (.tup [x,y]) (λAs T=>K .next As T) X:=PT.tup hq rfl (by
          show PT F m Aa (.v i) x (λAq Aa=>PT F Aq Aa (.v j) y (λAs T=>K .next As T) X) X;exact PT.v (PT.v q))
         refine aJ (pt _ hp v Ac Ad ra) ?_ λZ Z e=>e;intro _ Aj u;obtain⟨As,T,An,Ah,Bn⟩:=u;exact⟨.next,As,T,Ai.trans An,Ah,trivial,Bn⟩
        .refine Assign_Tuple_swapped (names:=[x1,x2]) ((ev _ he s hs).out ?_) (by unfold swapsWithSole;exact Ca he rfl) sw
         intro v Aa Ac Ai Ad u;obtain⟨a,ra,x,y,rfl,q⟩:=u;refine aJ (unpack2 hq B hf1 d hf2 O Ad ra) (λitems Aj Ah=>?_) λZ Z e=>e;refine aJ Ah (λZ BI AS=>?_) λZ Z e=>e;exact⟨.next,_,Aa,Ai.trans AS.1,AS.2,trivial,q⟩
end
end
section
variable {S:Sta}
section
variable {F:Fx S}{m m':Vars}{V V':Store}{s s':af}{X:Value->af->Prop}{Q:AV->Store->Prop}{K:Fl->Vars->Store->Prop}
noncomputable def Cu(l:List AV):List AV:=l.mapIdx λi x=>.tup [.int i,x]
theorem Gd{l:List AV}{i:Nat}{y:AV}(h:(Cu l)[i]?=some y):∃x,l[i]?=some x/\y=.tup [.int i,x]:=by
 simp only[Cu,fT,aU]at h;refine X1pr y h λx u=>?_;exact⟨x,u,rfl⟩
theorem Dn(l:List AV):(Cu l).length=l.length:=by simp[Cu]
theorem Im{h:Heap}{e it:Addr}{i:Int}{B:Value}{Y:Obj}(O:IsEnum h e it i B)(hi:h.get? it=some Y)(d:Df Y):Its h (λa=>a=e\/a=it):=by
 rintro a (rfl|rfl)
 .exact⟨_,O,⟨_,rfl,by decide,by decide⟩,_,rfl⟩
 .exact⟨_,hi,d⟩
theorem LD{a:AV}{l:List AV}{V z:Store}(h:dl V a=some l)(ks:∀b o,V b=some o->z b=some o):dl z a=some l:=by
 cases a with
 |loc y u =>
  refine X1pp (AD (show (V y).bind AObj.list?=some l from h)) λo d h'=>?_
  exact(congrArg (·.bind AObj.list?) (ks _ _ d)).trans h'
 |_=>exact h
theorem Ge(hq:S.hx=aa){t:aj}{ps:List Pat}{a:AV}{l:List AV}{ad e it:Addr}(hp:Tgt (.tup ps) t)(hne:e≠it) :
  Walk F e (Cu l) t (λb=>b=e\/b=it) (λi V' s'=>(∃B,IsEnum s'.heap e it i B)/\s'.heap.IsListIter it ad i/\Rep S.cv s'.heap (F.D V') a (.ref ad)/\dl V' a=some l) (okL a):=by
 refine X3l t hp λes kk pp=>?_;have its:∀(i:Nat)(s':af)(B:Value),IsEnum s'.heap e it i B->s'.heap.IsListIter it ad i->Its s'.heap (λb=>b=e\/b=it):=by
  intro i s' B Y u;refine X1ppp u λo eo c d=>?_;exact Im Y eo ⟨⟨_,c,by decide,by decide⟩,_,d⟩
 refine⟨?_,?_,?_,?_,?_⟩
 .intro i V' s' u
  obtain⟨⟨B,Y⟩,U,_⟩:=u;exact its i s' B Y U
 .intro i Aq As Aa Ac Ab Aj O hO hN u T st Ah o
  obtain⟨⟨B,Y⟩,U,ra,hl⟩:=u;have z:=its i Ac B Y U;refine X1ppp U λoi ei c d=>?_;exact⟨⟨B,z.still T hO hN st (.inl rfl) Y⟩,⟨oi,z.still T hO hN st (.inr rfl) ei,c,d⟩,ra.step st hO T.pN,okL_dl hl o⟩
 .intro i y Aq Aa Ac GA Q X hxx T u hQ
  obtain⟨⟨B,Y⟩,U,ra,hl⟩:=u;refine X1pp (Gd hxx) λx hx Z0=>?_;clear hxx;subst Z0;have z:=its i Ac B Y U;refine X3ppp (ra.lst T.inv hl) λad' ws n' e1 e' rl'=>?_;obtain rfl:=bG e1;refine X1pp (rl'.get hx) λv hv rv=>?_;refine wpAny_pyNext_enum_item Y U (items:=ws.toArray) ⟨_,e',rfl,n',rfl⟩ (x:=v) (by simpa using hv) hne λh' ho hit' hT hz hk=>?_
  refine wpAny_letOwnedTupleGo_enum ho λh'' he'' hsb=>?_;have kp:∀b o,¬(b=e\/b=it)->Ac.heap.get? b=some o->h''.get? b=some o:=λb o q eb=>hsb.extBut b o (λz=>q (.inl z)) (hk b o (λz=>q (.inl z)) (λz=>q (.inr z)) eb);have hlt:Ac.heap.objs.size≠e:=eG (bc Y);have ist:ItStep (λb=>b=e\/b=it) Ac { Ac with heap:=h'',toks:=Ac.toks+1 }:=⟨kp,rfl,rfl,rfl⟩
  refine hQ _ _ ist ?_ ⟨⟨v,by simpa using he''⟩,hit'.extBut hsb.extBut (d0 hne),ra.it z kp,hl⟩
  exact .tup (vs:=[_,_]) (hsb.extBut _ _ hlt hT) (T.inv.not_D (AB _)) (.cons (.int _ _) (.cons (rv.it z kp) .nil))
 .intro i Aa Ac Q X u hQ
  obtain⟨⟨B,Y⟩,_⟩:=u;exact fo Y hQ
 .intro Aq Aa Ac Q X T u hQ
  obtain⟨⟨B,Y⟩,U,ra,hl⟩:=u;refine X3ppp (ra.lst T.inv hl) λad' ws n' e1 e' rl'=>?_;obtain rfl:=bG e1;refine wpAny_pyNext_enum_end (F.room.quiet hq) Y U (items:=ws.toArray) ⟨_,e',rfl,n',rfl⟩ (by simp[rl'.length,Dn]) λh' hx=>hQ _ ⟨λb o q e=>hx b o (λz=>q (.inr z)) e,rfl,rfl,rfl⟩
theorem Hg(hq:S.hx=aa){t:aj}{ps:List Pat}{x:Str}{tk:Tok}{e it:Addr}(hp:Tgt (.tup ps) t)(hne:e≠it) :
  Walk F e (Cu (C8 x)) t (λb=>b=e\/b=it) (λi V' s'=>(∃B,IsEnum s'.heap e it i B)/\s'.heap.IsStrIter it "str_ascii_iterator" x tk i) (λZ Z=>True):=by
 refine X3l t hp λes kk pp=>?_;have its:∀(i:Nat)(s':af)(B:Value),IsEnum s'.heap e it i B->s'.heap.IsStrIter it "str_ascii_iterator" x tk i->Its s'.heap (λb=>b=e\/b=it):=by
  intro i s' B T U;refine X1ppp U λo eo c d=>?_;exact Im T eo ⟨⟨_,c,by decide,by decide⟩,_,d⟩
 have D:Draws S.prog S.w F.A.in1 it [it] x.cps.size (λi v=>∃c u,x.cps[i]?=some c/\v=.str ⟨#[c]⟩ u) (λi h=>h.IsStrIter it "str_ascii_iterator" x tk i):=Draws.strAscii (A:=F.A.in1) (F.room.quiet hq) it x tk;refine⟨?_,?_,?_,?_,?_⟩
 .intro i V' s' U
  obtain⟨⟨B,T⟩,Y⟩:=U;exact its i s' B T Y
 .intro i Aq As Aa Ac Ab Aj O hO hN U Ad st Ah o
  obtain⟨⟨B,T⟩,Y⟩:=U;have z:=its i Ac B T Y;refine X1ppp Y λoi ei c d=>?_;exact⟨⟨B,z.still Ad hO hN st (.inl rfl) T⟩,⟨oi,z.still Ad hO hN st (.inr rfl) ei,c,d⟩⟩
 .intro i y Aq Aa Ac GA Q X hxx Ad U hQ
  obtain⟨⟨B,T⟩,Y⟩:=U;refine X1pp (Gd hxx) λu hx Z1=>?_;clear hxx;subst Z1;have z:=its i Ac B T Y;have hlt':i<x.cps.size:=by
   rcases bL i x.cps.size with q|q
   .exact q
   .rw[aX (by simpa[C8]using q)]at hx;exact nS hx
  refine wpAny_pyNext_enum_itemD D T Y hlt' hne (by simpa using hne) λv h' tk' hP ho hit' hT hz hk=>?_
  refine wpAny_letOwnedTupleGo_enum ho λh'' he'' hsb=>?_;have kp:∀b o,¬(b=e\/b=it)->Ac.heap.get? b=some o->h''.get? b=some o:=λb o q eb=>hsb.extBut b o (λz=>q (.inl z)) (hk b o (λz=>q (.inl z)) (λz=>q (.inr z)) eb);have hlt:Ac.heap.objs.size≠e:=eG (bc T);have ist:ItStep (λb=>b=e\/b=it) Ac { Ac with heap:=h'',toks:=tk'+1 }:=⟨kp,rfl,rfl,rfl⟩
  refine X2pp hP λc tu hc Z2=>?_;clear hP ho;subst Z2;simp only[C8,aT,aU,Array.getElem?_toList]at hx;refine X1pp hx λc' hc' Z0=>?_;subst Z0;rw[hc]at hc';obtain rfl:=ae hc';refine hQ _ _ ist ?_ ⟨⟨_,by simpa using he''⟩,hit'.extBut hsb.extBut (d0 hne)⟩
  exact .tup (vs:=[_,_]) (hsb.extBut _ _ hlt hT) (Ad.inv.not_D (AB _)) (.cons (.int _ _) (.cons (.str _ _) .nil))
 .intro i Aa Ac Q X U hQ
  obtain⟨⟨B,T⟩,_⟩:=U;exact fo T hQ
 .intro Aq Aa Ac Q X Ad U hQ
  obtain⟨⟨B,T⟩,Y⟩:=U;have hl:(Cu (C8 x)).length=x.cps.size:=by simp[Dn,C8]
  rw[hl]at Y;exact wpAny_pyNext_enum_endD D T Y λh' hx=>hQ _ ⟨λb o q e=>hx b o (λz=>q (.inr z)) e,rfl,rfl,rfl⟩
theorem SrcT.enum1{ps:List Pat}{e:E}{gi:Nat}{G:List AV->(Store->Store->Prop)->Store->Prop}(hg:Glob S gi (.type "enumerate"))
  (h':EsT F m V [e] (λz Aa=>∃a,z=[a]/\S.hx=aa/\((∃l,dl Aa a=some l/\G (Cu l) (okL a) Aa)\/(∃x,a=.str x/\x.cps.all (·<128)=true/\G (Cu (C8 x)) (λZ Z=>True) Aa))) X):SrcT F m V (.tup ps) (.call (.g gi) [e]) G X:=by
 intro pe t hc hp s hs;refine X4lppp pe hc.inv λZ Z Z Z Z hx ha=>?_;refine Call_ (Dj hx hg hs (CX ha (Callable.type _) h' hs ?_));intro U z Aa Ac Ai T r B;refine X1ppp B λa Z0 hq q=>?_;clear B;subst Z0;refine X1lp U r.one λv ra=>?_;have O:∀k,Ac.heap.get? (Ac.heap.objs.size+k)=aa:=λk=>by
  cases q:Ac.heap.get? (Ac.heap.objs.size+k)with|none=>rfl|some o=>exact absurd (bc q) (cT.mpr (dO _ _))
 rcases q with⟨l,hl,hG⟩|⟨x,rfl,Y,hG⟩
 .refine X3ppp (ra.lst T.inv hl) λad vs n Z1 e1 rl=>?_
  subst Z1;refine call_enumerate_list (items:=vs.toArray) ⟨_,e1,rfl,n,rfl⟩ λh2 y u hz hk=>?_;refine fo y ?_;refine Ao (T.grow hk Ac.toks) λAh An=>?_;refine⟨_,_,_,_,_,Aa,Ac,rfl,λAU=>Ge (F:=AU) (a:=a) (ad:=ad) hq hp (gV _),Ai,T,An,Ah,?_,?_,hG⟩
  case refine_2 =>
   intro AU Ab Aj d hD ks;refine X1pp u λoi eo r=>?_;refine⟨⟨_,d _ _ y⟩,⟨oi,d _ _ eo,r⟩,(ra.st An.any Ah).ext (Ext.of_keeps d) hD,LD hl ks⟩
  rintro b (rfl|rfl)
  .exact O 1
  .exact O 0
 .refine X1l v ra.inv λtk=>?_
  refine call_enumerate_str λh2 y u hz hk=>?_;refine fo y ?_;refine Ao (T.grow hk Ac.toks) λAh An=>?_;have hty:strIterType x = "str_ascii_iterator":=by unfold strIterType;rw[Y];rfl
  rw[hty]at u;refine⟨_,_,_,_,_,Aa,Ac,rfl,λAU=>Hg (F:=AU) (tk:=tk) hq hp (gV _),Ai,T,An,Ah,?_,?_,hG⟩
  case refine_2 =>
   intro AU Ab Aj d hD ks;refine X1pp u λoi eo r=>?_;exact⟨⟨_,d _ _ y⟩,⟨oi,d _ _ eo,r⟩⟩
  rintro b (rfl|rfl)
  .exact O 1
  .exact O 0
end
end
section
variable {S:Sta}
noncomputable def JH(env:Env):List (Str×cG)->List (Str×Addr)->List (Str×Addr)
 |[],acc=>acc
 |(n,k)::r,acc=>if k == .free then JH env r ((n,(env.cells.lookup n).getD 0)::acc) else JH env r acc
set_option tactic.hygienic true in
theorem FF{env:Env}{y:Str}{c:Addr}:∀{names:List (Str×cG)}{acc:List (Str×Addr)},(y,c)∈JH env names acc->((y,bR)∈names/\c=(env.cells.lookup y).getD 0)\/(y,c)∈acc
 |[],_,h=>.inr h
 |(n,k)::r,acc,h=>by
  unfold JH at h
  split at h
  .rename_i B
   have z:k=bR:=by simpa using B
   rcases FF h with q|q
   .exact .inl ⟨.tail _ q.1,q.2⟩
   .rcases ax.mp q with e|q
    .obtain⟨rfl,rfl⟩:=cP e;clear B;subst z;exact .inl ⟨.head _,rfl⟩
    .exact .inr q
  .rcases FF h with q|q
   .exact .inl ⟨.tail _ q.1,q.2⟩
   .exact .inr q
set_option tactic.hygienic true in
theorem CV{env:Env}{y:Str}:∀{names:List (Str×cG)}{acc:List (Str×Addr)},(y,bR)∈names\/(acc.lookup y).isSome=true->((JH env names acc).lookup y).isSome=true
 |[],_,h=>h.elim (λe=>by exact nM e) id
 |(n,k)::r,acc,h=>by
  unfold JH
  split
  .refine CV ?_
   by_cases q:(y == n)=true
   .right;rw[cU,q];rfl
   .rcases h with h|h
    .rcases ax.mp h with e|h
     .obtain⟨rfl,rfl⟩:=cP e;simp at q
     .exact .inl h
    .right;rw[cU];simpa only[q]using h
  .rename_i B
   refine CV ?_
   rcases h with h|h
   .rcases ax.mp h with e|h
    .obtain⟨rfl,rfl⟩:=cP e;simp at B
    .exact .inl h
   .exact .inr h
theorem De{env:Env}(f:Str×cG->List (Str×Addr)->Sem (ForInStep (List (Str×Addr))))
  (T:∀name kind cs,f (name,kind) cs=if kind == .free then (do let a <- cellOf env name;pure (.yield ((name,a)::cs))) else pure (.yield cs)) :
  ∀(names:List (Str×cG))(acc:List (Str×Addr)),(∀p∈names,p.2=.free->∃c,env.cells.lookup p.1=some c)->forIn names acc f=pure (JH env names acc)
 |[],acc,_=>by rw[List.forIn_nil];rfl
 |(n,k)::r,acc,h=>by
  rw[ej,T];unfold JH
  by_cases B:(k == bR)=true
  .rw[if_pos B,if_pos B]
   refine X1p (h (n,k) (.head _) (by simpa using B)) λc Y=>?_
   have:cellOf env n=pure c:=by unfold cellOf;rw[Y]
   rw[this,Y];exact De f T r _ λp d=>h p (.tail _ d)
  .rw[if_neg B,if_neg B]
   exact De f T r _ λp d=>h p (.tail _ d)
theorem FE{env:Env}{scope:Scope}(h:∀p∈scope.names,p.2=.free->∃c,env.cells.lookup p.1=some c):closureFor scope env=pure (JH env scope.names []):=by
 unfold closureFor;dsimp only;rw[De _ (λname z U=>by cases hkc:z == bR<;>simp[hkc]) scope.names [] h]
 rfl
set_option tactic.hygienic true in
theorem CW{y:Str}{c:Addr}:∀{names:List (Str×cG)}{h:Heap}{acc:List (Str×Addr)},(y,c)∈c5 h.objs.size names acc->(y,c)∈acc\/((fK h names).IsCell c aa/\h.objs.size<=c/\(y,dq)∈names)
 |[],_,_,h=>.inl h
 |(n,k)::r,hp,acc,h=>by
  unfold c5 at h;unfold fK
  split at h
  .rename_i B
   rw[if_pos B];have hz:(hp.push { cls:=.type "cell",data:=.cell aa }).objs.size=hp.objs.size+1:=cK ..;rw[<- hz]at h
   rcases CW h with q|q
   .rcases ax.mp q with e|q
    .obtain⟨rfl,rfl⟩:=cP e
     have z:k=dq:=by simpa using B
     clear B;subst z;exact .inr ⟨⟨_,eU _ _ _ _ (aD _ rfl),rfl⟩,ay _,.head _⟩
    .exact .inl q
   .exact .inr ⟨q.1,by have:=q.2.1;rw[hz]at this;exact gH this,.tail _ q.2.2⟩
  .rename_i B
   rw[if_neg B]
   rcases CW h with q|q
   .exact .inl q
   .exact .inr ⟨q.1,q.2.1,.tail _ q.2.2⟩
theorem D8:∀{names:List (Str×cG)}{n:Nat}{acc:List (Str×Addr)},(∀p∈acc,p.2<n)->(∀p∈acc,∀q∈acc,p.2=q.2->p.1=q.1)->∀p∈c5 n names acc,∀q∈c5 n names acc,p.2=q.2->p.1=q.1
 |[],_,_,_,h2=>h2
 |(x,k)::r,n,acc,h1,h2=>by
  unfold c5
  split
  .refine D8 (λp d=>?_) λp d q hq e=>?_
   .rcases ax.mp d with rfl|d
    .exact eH n
    .exact cM (h1 p d)
   .rcases ax.mp d with rfl|d<;>rcases ax.mp hq with rfl|hq
    .rfl
    .exact absurd e (eG (h1 q hq))
    .exact absurd e (bO (h1 p d))
    .exact h2 p d q hq e
  .exact D8 h1 h2
noncomputable def compEnv(scope:Scope)(env:Env)(cl:List (Str×Addr))(C:Addr):Env :=
 { scope:=relabel scope env,locals:=C,globals:=env.globals,cells:=c5 (C+1) scope.names cl,qual:=env.qual,func:=none,code:=env.code,frame:=env.frame,builtins:=env.builtins }
theorem GW{A:cD}{E:Value->af->Prop}{s:af}{scope:Scope}{env:Env}{cl:List (Str×Addr)}{M:Model}{Q:Env->af->Prop}
  (h:Q { scope:=scope,locals:=s.heap.objs.size,globals:=env.globals,cells:=c5 (s.heap.objs.size+1) scope.names cl,qual:=env.qual,func:=none,code:=env.code,frame:=env.frame,builtins:=env.builtins }
   { s with heap:=fK (s.heap.push { cls:=.type "dict",data:=.dict #[] }) scope.names }) :
  wpAny M A (newFunctionEnv scope env.globals cl [] env.qual none .none (some env)) Q E s:=by
 simp only[newFunctionEnv,gu,if_true];refine ac (wpAny_alloc ?_);refine ac (wpAny_layCells _ (λname z cells=>by cases hkc:z == dq<;>simp[hkc]) _ _ _ _ ?_)
 rw[show ({ s with heap:=s.heap.push { cls:=.type "dict",data:=.dict #[] } }:af).heap.objs.size=s.heap.objs.size+1 from cK ..]
 exact ac (ah (ah h))
set_option tactic.hygienic true in
theorem FW{sc names:List (Str×cG)}{y:Str}{k:cG}(h:(y,k)∈relab sc names):(y,k)∈names\/(k=.cell/\(y,bR)∈names/\sc.lookup y=some .cell):=by
 unfold relab at h;obtain⟨⟨n,k'⟩,O,e⟩:=aW.mp h;simp only at e
 split at e
 .rename_i d
  obtain⟨rfl,rfl⟩:=cP e;simp only[be,beq_iff_eq]at d;obtain⟨rfl,d⟩:=d;exact .inr ⟨rfl,O,d⟩
 .obtain⟨rfl,rfl⟩:=cP e;exact .inl O
theorem BA{sc:List (Str×cG)}{y:Str}{k:cG}:∀{names:List (Str×cG)},names.lookup y=some k->(relab sc names).lookup y=some (if (k == .free && sc.lookup y == some .cell) then .cell else k)
 |[],h=>by exact nS h
 |(n,k')::r,h=>by
  unfold relab;rw[bQ]
  by_cases q:(y == n)=true
  .rw[cU,q]at h
   obtain rfl:=ae h
   have:y=n:=by simpa using q
   clear q;subst this;simp only
   split<;>rw[cU]<;>simp
  .rw[cU]at h
   simp only[q]at h;have u:=BA (sc:=sc) (names:=r) h;simp only
   split<;>rw[cU]<;>simp only[q]<;>exact u
section
variable {F:Fx S}{m:Vars}{V:Store}{s:af}{scope:Scope}{x:Str}{i:Nat}
theorem BL(F:Fx S)(scope:Scope):(relabel scope F.env).names=relab F.sc scope.names:=by
 unfold relabel relab;simp only[F.fk,beq_self_eq_true,Bool.and_true]
 rfl
structure CompOk(F:Fx S)(scope:Scope)(x:Str)(i:Nat):Prop where
 kind:scope.kind=.function
 var:scope.names.lookup x=some .local\/scope.names.lookup x=some .cell
 ok:okName x=true
 ix:ixS F.tb x=some i
 names:∀q∈scope.names,DL F.tb F.sc x q=true/\scope.names.lookup q.1=some q.2
theorem CompOk.free(c:CompOk F scope x i){y:Str}(h:(y,bR)∈scope.names):F.sc.lookup y=some .cell:=by
 have:=(c.names _ h).1
 simpa[DL]using this
theorem CompOk.own(c:CompOk F scope x i){y:Str}{k:cG}{j:Nat}(h:(y,k)∈scope.names)(B:k=.local\/k=.cell)(d:ixS F.tb y=some j):j=i:=by
 have:=(c.names _ h).1
 rcases B with rfl|rfl <;>
 .simp only[DL,d,c.ix,Option.isNone_some,Bool.false_or,beq_iff_eq,ew]at this
  exact this
theorem CompOk.cl(c:CompOk F scope x i):∀p∈scope.names,p.2=.free->∃a,F.env.cells.lookup p.1=some a:=by
 intro u d O;obtain⟨y,k⟩:=u;subst O;exact F.fc y (c.free d)
theorem CompOk.closure(c:CompOk F scope x i):closureFor scope F.env=pure (JH F.env scope.names []):=FE c.cl
theorem CompOk.clCell(c:CompOk F scope x i){y:Str}{a:Addr}(h:(y,a)∈JH F.env scope.names []):(y,bR)∈scope.names/\F.env.cells.lookup y=some a:=by
 rcases FF h with q|q
 .refine X1p (c.cl _ q.1 rfl) λd ha=>?_
  have:=q.2
  simp only at ha;rw[ha]at this;exact⟨q.1,by rw[this];exact ha⟩
 .exact nM q
end
end
section
variable {S:Sta}
section
variable {F:Fx S}{m Aq:Vars}{V Aa:Store}{s Ac:af}{scope:Scope}{x:Str}{i:Nat}
noncomputable abbrev ccl(F:Fx S)(scope:Scope):List (Str×Addr):=JH F.env scope.names []
noncomputable abbrev EW(F:Fx S)(scope:Scope)(C:Addr):Env:=compEnv scope F.env (ccl F scope) C
theorem Eb(C:Addr)(y:Str):(EW F scope C).kindOf y=(relab F.sc scope.names).lookup y:=by
 show (relabel scope F.env).names.lookup y=_;rw[BL]
theorem CompOk.fc(c:CompOk F scope x i)(C:Addr):∀y,(EW F scope C).kindOf y=some .cell->∃a,(EW F scope C).cells.lookup y=some a:=by
 intro y u;rw[Eb]at u;refine bF.mp (fi _ _ _ ?_)
 rcases FW (mem_of_lookup u)with q|⟨_,q,_⟩
 .exact .inl ((c.names _ q).2)
 .exact .inr (CV (.inl q))
noncomputable def Bp(c:CompOk F scope x i)(D C:Addr):Fx S :=
 ⟨F.A,F.tb,EW F scope C,F.b,λa=>F.N a\/a=D\/Own (EW F scope C) a,F.k,F.room.wide (λZ q=>.inl q),c.kind,F.fg,F.fb,c.fc C⟩
structure B9(F:Fx S)(scope:Scope)(s:af)(C:Addr):Prop where
 out:∀a,Own (EW F scope C) a->(∃y,(y,bR)∈scope.names/\F.env.cells.lookup y=some a)\/s.heap.get? a=aa
theorem CompOk.own_out(c:CompOk F scope x i){C:Addr}{h:Heap}(B:h.objs.size=C+1)(T:∀a,C<=a->s.heap.get? a=aa):B9 F scope s C:=by
 constructor
 rintro a (rfl|⟨y,u⟩)
 .exact .inr (T _ (ay _))
 .have z:=mem_of_lookup u
  have O:(y,a)∈c5 h.objs.size scope.names (ccl F scope):=by rw[B];exact z
  rcases CW O with q|q
  .exact .inl ⟨y,c.clCell q⟩
  .exact .inr (T a (gH (by have:=q.2.1;rw[B]at this;exact this)))
theorem comp_in(c:CompOk F scope x i)(hs:F.St m V s) :
  let D:=s.heap.objs.size
  let Ad:=(s.heap.push (AH #[] 0)).push { cls:=.type "dict",data:=.dict #[] }
  let U:af:={ s with heap:=fK Ad scope.names }
  (Bp c D (D+1)).St (λj=>if j=i then aa else m j) V U/\Step noO noO V s V U/\U.heap.get? D=some (AH #[] 0)/\B9 F scope s (D+1)/\(∀b o,s.heap.get? b=some o->U.heap.get? b=some o)/\(∀b,(Bp c D (D+1)).D V b->F.D V b\/s.heap.get? b=aa)/\¬Own (EW F scope (D+1)) D:=by
 intro D Ad U;have Z0:(s.heap.push (AH #[] 0)).objs.size=D+1:=cK ..;have hz:Ad.objs.size=D+1+1:=(cK ..).trans (by rw[Z0])
 have kp:∀b o,s.heap.get? b=some o->U.heap.get? b=some o:=λb o e=>eU _ _ _ _ (au _ (au _ e));have fresh:∀a,D<=a->s.heap.get? a=aa:=λa ha=>by
  cases q:s.heap.get? a with|none=>rfl|some o=>exact absurd (bc q) (cT.mpr ha)
 have cn:B9 F scope s (D+1):=c.own_out (h:=Ad) hz λa ha=>fresh a (gH ha);have gD:U.heap.get? D=some (AH #[] 0):=eU _ _ _ _ (au _ (aD _ rfl));have gC:Ad.get? (D+1)=some { cls:=.type "dict",data:=.dict #[] }:=by rw[<- Z0];exact aD _ rfl
 refine Ao (hs.grow kp s.toks) λZ st=>?_;obtain⟨mc,cm,n,cc,ow,ap,cl,rr⟩:=hs.loc;have FO:∀{y a},F.env.cells.lookup y=some a->F.O a:=λh=>.inr ⟨_,h⟩;have hDN:∀b,DN (Bp c D (D+1)).N V b->DN F.N V b\/s.heap.get? b=aa:=by
  rintro b (q|q|q|q)
  .exact .inl (.inl q)
  .exact .inl (.inr q)
  .exact .inr (q▸fresh D (ay _))
  .rcases cn.out b q with⟨y,_,u⟩|q
   .exact .inl (.inr (hs.own b (FO u)))
   .exact .inr q
 have e0:Ext (DN F.N V) s.heap U.heap:=Ext.of_keeps kp;have T:∀{y a},(EW F scope (D+1)).cells.lookup y=some a->((y,bR)∈scope.names/\F.env.cells.lookup y=some a)\/(U.heap.IsCell a aa/\D+2<=a/\(y,dq)∈scope.names):=by
  intro y a u;have hm:(y,a)∈c5 Ad.objs.size scope.names (ccl F scope):=by rw[hz];exact mem_of_lookup u
  rcases CW hm with q|⟨q1,q2,q3⟩
  .exact .inl (c.clCell q)
  .exact .inr ⟨q1,by rw[hz]at q2;exact q2,q3⟩
 have Y:∀{y k k'},(y,k)∈scope.names->(y,k')∈scope.names->k=k':=by
  intro y k k' h1 h2;have a1:=(c.names _ h1).2;have a2:=(c.names _ h2).2;simp only at a1 a2;rw[a1]at a2;exact ae a2
 refine⟨⟨⟨?_,hs.inv.gens,hs.inv.drawn,hs.inv.os,hs.inv.σg,?_,?_,?_⟩,?_,hs.frm.trans st.any,λa q=>.inl (hs.pN a q),?_,λa q=>.inr (.inr q),hs.gb⟩,st,gD,cn,kp,hDN,?_⟩
 .exact λb o e=>kp b o (hs.inv.keep b o e)
 .rintro a d (q|q|q)
  .exact hs.inv.σN a d q
  .exact hs.inv.not_dom (q▸fresh D (ay _)) d
  .rcases cn.out a q with⟨y,_,u⟩|q
   .exact hs.inv.σN a d (hs.own a (FO u))
   .exact hs.inv.not_dom q d
 .rintro a (q|q|q|⟨y,u⟩)
  .refine X1pp (hs.inv.Nin a q) λo e nf=>?_;exact⟨o,kp a o e,nf⟩
  .exact⟨_,q▸gD,λvs z=>by exact nDf rfl z⟩
  .have q':a=D+1:=q
   exact⟨_,by rw[q'];exact eU _ _ _ _ gC,λvs z=>by exact nDf rfl z⟩
  .rcases T u with⟨_,u⟩|⟨⟨o,e,dd⟩,_⟩
   .refine X1pp (cc y a u) λo e dd=>?_;exact⟨o,kp a o e,λvs z=>by rw[dd]at z;exact nDf rfl z⟩
   .exact⟨o,e,λvs z=>by rw[dd]at z;exact nDf rfl z⟩
 .exact λa o e=>(hs.inv.rep a o e).ext e0 hDN (kp a)
 .refine⟨λZ=>aa,λy=>if (y,dq)∈scope.names then aa else cm y,?_,?_,?_,?_,?_,?_⟩
  .have:Ad.Ns (D+1) (λZ=>aa):=by rw[<- Z0];exact Heap.Ns.new _ _
   exact this.keeps (eU _ _)
  .intro y a u
   rcases T u with⟨hf,u⟩|⟨q,_,hc⟩
   .have:¬(y,dq)∈scope.names:=λh=>by cases Y h hf
    simp only[if_neg this];exact(cc y a u).keeps kp
   .simp only[if_pos hc];exact q
  .intro a q
   rcases cn.out a q with⟨y,_,u⟩|q
   .exact ow a (FO u)
   .exact⟨hs.inv.not_dom q,hs.inv.not_g q⟩
  .intro y z a u hz'
   refine D8 (n:=D+1+1) (names:=scope.names) (acc:=ccl F scope) ?_ ?_ (y,a) (mem_of_lookup u) (z,a) (mem_of_lookup hz') rfl
   .intro hR1 hp
    obtain⟨p1,p2⟩:=hR1;refine Ao (c.clCell hp) λZ hl=>?_
    have:=(cc p1 p2 hl).lt
    show p2<D+1+1;exact Nat.lt_of_lt_of_le this (dO _ 2)
   .intro hR1 hp hR2 hq e
    obtain⟨p1,p2⟩:=hR1;obtain⟨q1,q2⟩:=hR2;simp only at e;subst e;exact ap _ _ _ (c.clCell hp).2 (c.clCell hq).2
  .intro y a u
   rcases T u with⟨_,u⟩|⟨_,q,_⟩
   .have:=(cc y a u).lt
    exact bO (cM this)
   .exact eG q
  .intro y j av hj hm
   have hji:j≠i:=λe=>by rw[if_pos e]at hm;exact nS hm
   rw[if_neg hji]at hm;show LocAt _ _ _ _ _ _ ((EW F scope (D+1)).kindOf y) _ _
   cases hk:(EW F scope (D+1)).kindOf y with
   |none=>trivial
   |some k =>
    have B:=hk;rw[Eb]at B
    rcases FW (mem_of_lookup B)with q|⟨rfl,q,q2⟩
    .cases k with
     |«local»=>exact absurd (c.own q (.inl rfl) hj) hji
     |cell=>exact absurd (c.own q (.inr rfl) hj) hji
     |free =>
      have e1:=(c.names _ q).2;simp only at e1;rw[BA e1,c.free q]at B;simp at B
     |globalExplicit=>trivial
     |globalImplicit=>trivial
    .have:=rr y j av hj hm
     have kd:F.env.kindOf y=F.sc.lookup y:=rfl;rw[kd,q2]at this;refine X2ppp this λv a h0 h1 h2=>?_;refine X1p (c.fc (D+1) y hk) λa' ha'=>?_;have hmem:¬(y,dq)∈scope.names:=λh=>by cases Y h q
     refine⟨v,a',ha',by simp only[if_neg hmem];exact h1,h2.ext e0 hDN⟩
 .intro a q
  rcases cn.out a q with⟨y,_,u⟩|q
  .exact hs.new a (FO u)
  .exact hs.frm.new q
 .rintro (q|⟨y,u⟩)
  .exact absurd (show D=D+1 from q) (bO (eH D))
  .rcases T u with⟨_,u⟩|⟨_,q,_⟩
   .exact absurd (cc y D u).lt (Nat.lt_irrefl _)
   .exact absurd q (Nat.not_le.mpr (cM (eH D)))
theorem LK(c:CompOk F scope x i){D C:Addr}(Y:B9 F scope s C)(y:Step F.P (Bp c D C).O V s Aa Ac):Step F.P F.O V s Aa Ac:=by
 have T:∀{b o},s.heap.get? b=some o->(Bp c D C).O b->F.O b:=λ{b o} e q=>by
  rcases Y.out b q with⟨z,_,hz⟩|q
  .exact .inr ⟨z,hz⟩
  .rw[q]at e;exact nS e
 exact⟨⟨λb o e d=>y.ext.obj b o e λq=>d (q.imp id λq=>q.imp (T e) id)⟩,λb o e n U d=>y.frm b o e n (λq=>U (T e q)) d,y.dom,y.there⟩
open Classical in
set_option tactic.hygienic true in
theorem LL(c:CompOk F scope x i){C:Addr}(cn:B9 F scope s C)(hs:F.St m V s){Np:Addr->Prop}(hN:∀b,Np b->F.N b\/s.heap.get? b=aa)(hN2:∀b,F.N b->Np b)(stF:Step F.P F.O V s Aa Ac)(inv':Inv S Np Aa Ac)(frm':Step F.P noO F.b.1 F.b.2 Aa Ac)
  (out:∀a o,s.heap.get? a=some o->F.O a->¬Own (EW F scope C) a->∃u,Ac.heap.get? a=some u/\u.cls=o.cls/\u.data=o.data/\u.dict=o.dict)
  (cm':Str->Option Value) (hcm:∀z a,(z,bR)∈scope.names->(EW F scope C).cells.lookup z=some a->Ac.heap.IsCell a (cm' z))
  (hcv:∀z j av,(z,bR)∈scope.names->ixS F.tb z=some j->j≠i->m j=some av->∃v,cm' z=some v/\Rep S.cv Ac.heap (DN Np Aa) av v):Internal.St S F.tb F.env Np F.P F.b m Aa Ac:=by
 have FO:∀{y a},F.env.cells.lookup y=some a->F.O a:=λh=>.inr ⟨_,h⟩;obtain⟨mc,cm,n,cc,ow,ap,cl,rr⟩:=hs.loc;have Y:∀{y k k'},(y,k)∈scope.names->(y,k')∈scope.names->k=k':=by
  intro y k k' h1 h2;have a1:=(c.names _ h1).2;have a2:=(c.names _ h2).2;simp only at a1 a2;rw[a1]at a2;exact ae a2
 have U:∀{av v},Rep S.cv s.heap (DN F.N V) av v->Rep S.cv Ac.heap (DN Np Aa) av v:=λr=>r.ext (stF.ext.mono λa h=>h.imp id λh=>h.elim (hs.own a) (hs.pN a)) λb h=>h.elim (λh=>(stF.dom b h).imp .inl id) λh=>(hN b h).imp .inr id;have B:∀{z a},F.env.cells.lookup z=some a->Own (EW F scope C) a->(z,bR)∈scope.names:=by
  intro z a hz ha;refine X1pp (cc z a hz) λo e Z=>?_
  rcases cn.out a ha with⟨z',T,hz'⟩|q
  .have:=ap _ _ _ hz hz'
   clear hz';subst this;exact T
  .rw[e]at q;exact nS' q
 have lk:∀{z a b},F.env.cells.lookup z=some a->(z,bR)∈scope.names->(EW F scope C).cells.lookup z=some b->b=a:=by
  intro z a b hz T hb;have hm:(z,b)∈c5 (C+1) scope.names (ccl F scope):=mem_of_lookup hb;have gen:∀{names:List (Str×cG)}{k:Nat}{acc:List (Str×Addr)},(z,b)∈c5 k names acc->(z,b)∈acc\/(z,dq)∈names:=by
   intro names
   induction names with
   |nil=>intro k acc h;exact .inl h
   |cons p r ih =>
    intro k acc h;obtain⟨pn,pk⟩:=p;unfold c5 at h
    split at h
    .rename_i hk
     have hk':pk=dq:=by simpa using hk
     clear hk;subst hk'
     rcases ih h with q|q
     .rcases ax.mp q with e|q
      .obtain⟨rfl,rfl⟩:=cP e;exact .inr (.head _)
      .exact .inl q
     .exact .inr (.tail _ q)
    .rcases ih h with q|q
     .exact .inl q
     .exact .inr (.tail _ q)
  rcases gen hm with q|q
  .have:=(c.clCell q).2
   rw[hz]at this;exact(ae this).symm
  .cases Y q T
 refine⟨inv',⟨mc,λz=>if (z,bR)∈scope.names then cm' z else cm z,?_,?_,?_,ap,cl,?_⟩,frm',(λa q=>hN2 a (hs.pN a q)),hs.new,λa q=>hN2 a (hs.own a q),hs.gb⟩
 .refine X3ppp n λo es ep e d r=>?_
  have hn:¬Own (EW F scope C) F.env.locals:=λq=>by
   rcases cn.out _ q with⟨z,_,hz⟩|q
   .exact cl z _ hz rfl
   .rw[e]at q;exact nS' q
  refine X1pppp (out _ _ e (.inl rfl) hn) λu e' Z d' Z=>?_;exact⟨u,es,ep,e',d'.trans d,r⟩
 .intro z a hz
  by_cases T:(z,bR)∈scope.names
  .simp only[if_pos T]
   refine X1p (bF.mp (fi (x:=z) scope.names (C+1) (ccl F scope) (.inr (CV (.inl T))))) λb hb=>?_
   have:=lk hz T hb
   clear hz;subst this;exact hcm z b T hb
  .simp only[if_neg T]
   have hn:¬Own (EW F scope C) a:=λq=>T (B hz q);refine X1pp (cc z a hz) λo e d=>?_;refine X1pppp (out _ _ e (FO hz) hn) λu e' Z d' Z=>?_;exact⟨u,e',d'.trans d⟩
 .intro a ha
  exact⟨λd=>inv'.σN a d (hN2 a (hs.own a ha)),(ow a ha).2⟩
 .intro z j av hj hmj
  have old:=rr z j av hj hmj;have kd:F.env.kindOf z=F.sc.lookup z:=rfl
  by_cases T:(z,bR)∈scope.names
  .have q2:=c.free T
   rw[kd,q2]at old ⊢;refine X2ppp old λv a h0 Z Z=>?_;have hji:j≠i:=by
    rintro rfl
    have:z=x:=BN hj c.ix
    subst this
    rcases c.var with q|q<;>cases Y (mem_of_lookup q) T
   refine X1pp (hcv z j av T hj hji hmj) λv' h1' h2'=>?_;exact⟨v',a,h0,by simp only[if_pos T];exact h1',h2'⟩
  .exact LocAt.map old (λh2=>U h2) (λZ h1=>h1) (λZ h1=>by simp only[if_neg T];exact h1)
theorem Iw(c:CompOk F scope x i){D C:Addr}{h':Heap}{ys:List AV}{vs:List Value}{n:Nat}(cn:B9 F scope s C)(hs:F.St m V s)(hDs:s.heap.get? D=aa)(hCs:s.heap.get? C=aa)(hDC:D≠C)
  (y:Step F.P (Bp c D C).O V s Aa Ac) (Y:(Bp c D C).St Aq Aa Ac) (hm:∀j,j≠i->Aq j=m j) (hb:ie C Ac.heap h') (gD:Ac.heap.get? D=some (AH vs.toArray n)) (rl:RepL S.cv Ac.heap ((Bp c D C).D Aa) ys vs)
  {Np:Addr->Prop} (hNp:∀b,Np b->F.N b\/b=C) (hN2:∀b,F.N b->Np b) (hex:Np C->∃o,h'.get? C=some o/\∀vs,o.data≠.fields vs)
  {Q:AV->Store->Prop} (q:Fresh Aa (.list ys) (.list ys) Q):∃V',Step F.P F.O V s V' { Ac with heap:=h' }/\Internal.St S F.tb F.env Np F.P F.b m V' { Ac with heap:=h' }/\∃av,Rep S.cv h' (DN Np V') av (.ref D)/\Q av V':=by
 have stF:=LK c cn y;obtain⟨mc',cm',n',cc',ow',ap',cl',rr'⟩:=Y.loc;have oC:Own (EW F scope C) C:=.inl rfl;have nC:∀{b o},s.heap.get? b=some o->b≠C:=λe q=>by rw[q,hCs]at e;exact nS e
 have B:∀b o,b≠C->Ac.heap.get? b=some o->h'.get? b=some o:=λb o ne e=>hb.extBut b o ne e;have e0:Ext (DN (Bp c D C).N Aa) Ac.heap h':=Ext.of_but λb o d e=>B b o (λq=>d (.inr (.inr (.inr (q▸oC))))) e;have nFN:¬F.N D:=λq=>by refine X1pp (hs.inv.Nin D q) λo e nf=>?_;rw[hDs]at e;exact nS e
 have nNp:¬Np D:=λq=>(hNp D q).elim nFN hDC;have T:∀b,Np b->(Bp c D C).N b:=λb q=>(hNp b q).elim .inl λq=>.inr (.inr (q▸oC));have Kx:¬Dom Aa D:=λd=>Y.inv.σN D d (.inr (.inl rfl));have mk:∀V':Store,(∀a o,V' a=some o->Aa a=some o\/(a=D/\o=.list ys))->Internal.St S F.tb F.env Np F.P F.b m V' { Ac with heap:=h' }/\Step F.P F.O V s V' { Ac with heap:=h' }:=by
  intro V' ho;have hd:∀a,Dom V' a->Dom Aa a\/a=D:=λa d=>by
   cases e:V' a with|none=>exact absurd e d|some o=>exact(ho a o e).imp (λq=>by unfold Dom;rw[q];simp) λq=>q.1
  have hDN:∀b,DN Np V' b->DN (Bp c D C).N Aa b:=λb q=>q.elim (λq=>(hd b q).elim .inl λq=>.inr (.inr (.inl q))) λq=>.inr (T b q);have stF':Step F.P F.O V s V' { Ac with heap:=h' }:=⟨⟨λb o e d=>B b o (nC e) (stF.ext.obj b o e d)⟩,λb o e d f g=>by
    refine X1pp (stF.frm b o e d f g) λu U r=>?_;exact⟨u,B b u (nC e) U,r⟩,λb d=>(hd b d).elim (stF.dom b) λq=>.inr (q▸hDs),λb o e=>by
    refine X1p (stF.there b o e) λu U=>?_;exact⟨u,B b u (nC e) U⟩⟩
  have inv':Inv S Np V' { Ac with heap:=h' }:=by
   refine⟨λb o e=>B b o (λq=>?_) (Y.inv.keep b o e),Y.inv.gens,Y.inv.drawn,Y.inv.os,λa d=>(hd a d).elim (Y.inv.σg a) λq=>q▸hs.inv.not_g hDs,λa d q=>(hd a d).elim (λd=>Y.inv.σN a d (T a q)) λz=>nNp (z▸q),λa q=>?_,λa o e=>?_⟩
   .clear cn hCs hDC y Y hb rl hNp hex n' cc' ap' cl' rr' nC B e0 T hDN;subst q
    have:=(ow' b oC).2
    rw[this]at e;exact nS e
   .rcases hNp a q with q' | q'
    .refine X1pp (hs.inv.Nin a q') λo e nf=>?_
     refine X1pp (Y.inv.Nin a (.inl q')) λu U nf'=>?_;exact⟨u,B a u (nC e) U,nf'⟩
    .rw[q']at q ⊢;exact hex q
   .rcases ho a o e with q|⟨rfl,rfl⟩
    .exact(Y.inv.rep a o q).ext e0 (λb z=>.inl (hDN b z)) λob U=>B a ob (λz=>Y.inv.σN a (by unfold Dom;rw[q];simp) (.inr (.inr (z▸oC)))) U
    .exact .list (B _ _ hDC gD) (rl.ext e0 λb z=>.inl (hDN b z))
  have frm':Step F.P noO F.b.1 F.b.2 V' { Ac with heap:=h' }:=by
   have bC:∀{b o},F.b.2.heap.get? b=some o->b≠C:=λ{b o} e q=>by
    refine X1p (hs.frm.there b o e) λu U=>?_;exact nC U q
   have bD:F.b.2.heap.get? D=aa:=hs.frm.new hDs;have f:=Y.frm;exact⟨⟨λb o e d=>B b o (bC e) (f.ext.obj b o e d)⟩,λb o e d g x=>by
    refine X1pp (f.frm b o e d g x) λu U r=>?_;exact⟨u,B b u (bC e) U,r⟩,λb d=>(hd b d).elim (f.dom b) λq=>.inr (q▸bD),λb o e=>by
    refine X1p (f.there b o e) λu U=>?_;exact⟨u,B b u (bC e) U⟩⟩
  refine⟨LL c cn hs (λb q=>(hNp b q).imp id λ(q:b=C)=>by rw[q];exact hCs) hN2 stF' inv' frm' ?_ cm' ?_ ?_,stF'⟩
  .intro a o e ha hn
   obtain⟨_,_,_,_,ow,_,_,_⟩:=hs.loc;refine X1pp (y.there' e (ow a ha).1 hn) λu U r=>?_;exact⟨u,B a u (nC e) U,r⟩
  .intro z a hf hz
   refine X1pp (cc' z a hz) λo e d=>?_;exact⟨o,B a o (cl' z a hz) e,d⟩
  .intro z j av hf hj hji hmj
   have hk:(Bp c D C).env.kindOf z=some .cell:=by
    show (EW F scope C).kindOf z=_;rw[Eb,BA ((c.names _ hf).2),c.free hf];simp
   have new:=rr' z j av hj ((hm j hji).trans hmj);rw[hk]at new;refine X2ppp new λv a Z h1 h2=>?_;exact⟨v,h1,h2.ext e0 λb q=>.inl (hDN b q)⟩
 rcases q with q|⟨i,q⟩
 .refine Ao (mk Aa λa o e=>.inl e) λh2 st2=>?_
  exact⟨Aa,st2,h2,_,.list (B _ _ hDC gD) (λd=>d.elim Kx nNp) (rl.ext e0 λb z=>.inl (z.imp id (T b))),q⟩
 .obtain⟨h2,st2⟩:=mk (Aa.set D (.list ys)) λa o e=>by
   by_cases z:a=D
   .clear hDs hDC y Y gD rl n' cc' ow' ap' cl' rr' e0 nFN nNp T Kx mk;subst z;rw[Store.set_self]at e;exact .inr ⟨rfl,(ae e).symm⟩
   .rw[Store.set_ne _ _ z]at e;exact .inl e
  exact⟨_,st2,h2,_,.loc D i,q D Kx⟩
theorem St.letGo{tb:List Nat}{env:Env}{N Np P:Addr->Prop}{b:Store×af}{m:Vars}{V:Store}{s:af}{h':Heap}{C:Addr}(hs:Internal.St S tb env Np P b m V s)(hC:Np C)(hN:∀a,N a->Np a)(T:∀a,P a->N a)(Y:¬N C)(ho:∀a,Own env a->N a)(y:b.2.heap.get? C=aa)
  (hb:ie C s.heap h'):Internal.St S tb env N P b m V { s with heap:=h' }/\∀{av v},Rep S.cv s.heap (DN Np V) av v->Rep S.cv h' (DN N V) av v:=by
 have B:∀b o,b≠C->s.heap.get? b=some o->h'.get? b=some o:=λb o ne e=>hb.extBut b o ne e;have e0:Ext (DN Np V) s.heap h':=Ext.of_but λb o d e=>B b o (λq=>d (.inr (q▸hC))) e;have hD:∀b,DN N V b->DN Np V b\/s.heap.get? b=aa:=λb q=>.inl (q.imp id (hN b));have rep:∀{av v},Rep S.cv s.heap (DN Np V) av v->Rep S.cv h' (DN N V) av v:=λr=>r.ext e0 hD;obtain⟨mc,cm,n,cc,ow,ap,cl,rr⟩:=hs.loc;have U:∀a,Own env a->a≠C:=λa q z=>Y (z▸ho a q);refine⟨⟨⟨λa o e=>B a o (λq=>?_) (hs.inv.keep a o e),hs.inv.gens,hs.inv.drawn,hs.inv.os,hs.inv.σg,λa d q=>hs.inv.σN a d (hN a q),λa q=>?_,λa o e=>(hs.inv.rep a o e).ext e0 hD λob O=>B a ob (λz=>hs.inv.σN a (by unfold Dom;rw[e];simp) (z▸hC)) O⟩,?_,?_,T,hs.new,ho,hs.gb⟩,rep⟩
 .clear hC Y hb B U;subst q;rw[hs.gb a y]at e;exact nS e
 .refine X1pp (hs.inv.Nin a (hN a q)) λo e nf=>?_;exact⟨o,B a o (λz=>Y (z▸q)) e,nf⟩
 .refine⟨mc,cm,?_,λz a hz=>?_,ow,ap,cl,λz j av hj hm=>?_⟩
  .refine X3pp n λo es ep e d=>?_;exact⟨o,es,ep,B _ _ (U _ (.inl rfl)) e,d⟩
  .refine X1pp (cc z a hz) λo e d=>?_;exact⟨o,B _ _ (U _ (.inr ⟨z,hz⟩)) e,d⟩
  .exact LocAt.map (rr z j av hj hm) (λh2=>rep h2) (λZ h1=>h1) (λZ h1=>h1)
 .have bC:∀{a o},b.2.heap.get? a=some o->a≠C:=λe z=>by rw[z,y]at e;exact nS e
  have f:=hs.frm;exact⟨⟨λa o e d=>B a o (bC e) (f.ext.obj a o e d)⟩,λa o e d g x=>by
   refine X1pp (f.frm a o e d g x) λu O r=>?_;exact⟨u,B a u (bC e) O,r⟩,f.dom,λa o e=>by
   refine X1p (f.there a o e) λu O=>?_;exact⟨u,B a u (bC e) O⟩⟩
end
end
section
variable {S:Sta}
abbrev NoX:Value->af->Prop:=λZ Z=>False
theorem Gm{A:cD}{R:Result->af->Prop}{s:af}{u Y y:aj}{T:List aj}{scope:Scope}{pos:Pos}{it acc:Value}{env:Env}(I:Nat->af->Prop)
  (turn:∀n s,I n s->wpAny (model S.prog S.w) A (pyNext it) (λr Ac=>match r with
   |none=>R (.ok .next) Ac
   |some v=>wpAny (model S.prog S.w) A (letOwnedTupleGo Y it v) (λZ z=>wpAny (model S.prog S.w) A (assign Y env v) (λZ Aj =>
     wpAny (model S.prog S.w) A (forIn T true λc r=>if r=true then do let ok <- isTrue c env (eval c env);pure (f8 ok) else pure (f8 r)) (λok B =>
      if ok=true then wpAny (model S.prog S.w) A (eval u env) (λx d =>
       wpAny (model S.prog S.w) A (call (.builtin "list.append") [acc,x]) (λZ O=>∃m,m<n/\I m O) NoX d) NoX B
      else ∃m,m<n/\I m B) NoX Aj) NoX z) NoX Ac) NoX s)
  (n:Nat) (h:I n s):codeAny (model S.prog S.w) A (.compLoop (.ListComp u [⟨Y,y,T,0⟩] scope pos) 0 it acc env) R s:=by
 refine codeAny_loop rfl I (λn s hI=>?_) n h;show wpAny _ A ((compTurn (.ListComp u [⟨Y,y,T,0⟩] scope pos) 0 it acc env).onRaise (λx=>do noteFrame x env;theTreesLotGoes x)) _ _ s
 refine wpAny_noted (wpAny_noRaise ?_);rw[compTurn_list];refine ac (cX (ac (aJ (turn n s hI) (λr Ac Ad=>?_) λZ Z h'=>h')))
 cases r with
 |none=>exact ah Ad
 |some v =>
  refine ac (aJ Ad (λZ z U=>?_) λZ Z h'=>h');refine ac (aJ U (λZ Aj Ah=>ac (aJ Ah (λok B AS=>?_) λZ Z h'=>h')) λZ Z h'=>h')
  cases ok with
  |false=>exact ah ⟨rfl,AS⟩
  |true =>
   exact ac (ac (aJ AS (λx d Br=>ac (aJ Br (λZ O Fq=>ah (ah ⟨rfl,Fq⟩)) λZ Z h'=>h')) λZ Z h'=>h'))
def TestT(F:Fx S)(m:Vars)(V:Store)(cs:List E)(Q:Bool->Store->Prop):Prop:=match cs with
 |[]=>Q true V
 |[c]=>TT F m V c Q NoX
 |_=>False
theorem TestT.run{F:Fx S}{m:Vars}{V:Store}{s:af}{U:List E}{pcs:List aj}{Q:Bool->Store->Prop}(h:TestT F m V U Q)(d:CEs F.tb F.sc pcs U)(hs:F.St m V s) :
  W F m V s (forIn pcs true λc r=>if r=true then do let ok <- isTrue c F.env (eval c F.env);pure (f8 ok) else pure (f8 r)) (λb V' Z=>Q b V') NoX:=by
 match U,h with
 |[],h=>obtain rfl:=d.inv_nil;exact wpAny_tests_nil ⟨V,Step.refl _ _ _ _,hs,h⟩
 |[c],h =>
  refine X2lppp pcs d.inv λZ Z Y O y=>?_;obtain rfl:=y.inv_nil;exact wpAny_tests_one (h _ O s hs)
def FH(F:Fx S)(i:Nat)(elt:E)(cs:List E)(ok:Store->Store->Prop)(m:Vars)(K:List AV->Store->Prop):List AV->List AV->Store->Prop
 |[],ys,V=>K ys V
 |x::r,ys,V=>TestT F (m.set i x) V cs (λb Aa=>if b=true then ET F (m.set i x) Aa elt (λy Ab=>ok V Ab/\FH F i elt cs ok m K r (ys++[y]) Ab) NoX else ok V Aa/\FH F i elt cs ok m K r ys Aa)
section
variable {F:Fx S}{m:Vars}{V:Store}{s:af}{scope:Scope}{x:Str}{i:Nat}
theorem set_over{m m':Vars}{i:Nat}{x:AV}(h:∀j,j≠i->m' j=m j):m'.set i x=m.set i x:=by
 funext j
 unfold Vars.set
 by_cases q:j=i
 .simp[q]
 .simp[q,h j q]
theorem RepL.snoc{cv:Nat->Value}{h:Heap}{D:Addr->Prop}{a:AV}{v:Value}{l:List AV}{vs:List Value}(r:RepL cv h D l vs)(d:Rep cv h D a v):RepL cv h D (l++[a]) (vs++[v]):=r.app (.cons d .nil)
theorem St.turnN{tb:List Nat}{env:Env}{N P:Addr->Prop}{b:Store×af}{m:Vars}{V:Store}{s:af}{h':Heap}{C:Addr}(hs:Internal.St S tb env N P b m V s)(T:N C)(nO:¬Own env C)(U:b.2.heap.get? C=aa)
  (hb:dn C s.heap h') (y:∃o,h'.get? C=some o/\∀vs,o.data≠.fields vs):Internal.St S tb env N P b m V { s with heap:=h' }/\Step P (·=C) V s V { s with heap:=h' }:=by
 have B:∀b o,b≠C->s.heap.get? b=some o->h'.get? b=some o:=λb o ne e=>hb b o ne e;have e0:Ext (DN N V) s.heap h':=Ext.of_but λb o d e=>B b o (λq=>d (.inr (q▸T))) e;have hD:∀b,DN N V b->DN N V b\/s.heap.get? b=aa:=λb q=>.inl q;have rep:∀{av v},Rep S.cv s.heap (DN N V) av v->Rep S.cv h' (DN N V) av v:=λr=>r.ext e0 hD;have there:∀a o,s.heap.get? a=some o->∃u,h'.get? a=some u:=λa o e=>by
  by_cases q:a=C
  .clear T nO U hb B;subst q;exact⟨y.choose,y.choose_spec.1⟩
  .exact⟨o,B a o q e⟩
 obtain⟨mc,cm,n,cc,ow,ap,cl,rr⟩:=hs.loc;have O:∀a,Own env a->a≠C:=λa q z=>nO (z▸q);refine⟨⟨⟨λa o e=>B a o (λq=>?_) (hs.inv.keep a o e),hs.inv.gens,hs.inv.drawn,hs.inv.os,hs.inv.σg,hs.inv.σN,λa q=>?_,λa o e=>(hs.inv.rep a o e).ext e0 hD λob Y=>B a ob (λz=>hs.inv.σN a (by unfold Dom;rw[e];simp) (z▸T)) Y⟩,?_,?_,hs.pN,hs.new,hs.own,hs.gb⟩,
  Step.of_but (λa o Z n e=>B a o n e) (λZ h=>.inl h) there⟩
 .clear T nO hb y B O;subst q;rw[hs.gb a U]at e;exact nS e
 .refine X1pp (hs.inv.Nin a q) λo e nf=>?_
  by_cases z:a=C
  .rw[z];exact y
  .exact⟨o,B a o z e,nf⟩
 .refine⟨mc,cm,?_,λz a hz=>?_,ow,ap,cl,λz j av hj hm=>?_⟩
  .refine X3pp n λo es ep e d=>?_;exact⟨o,es,ep,B _ _ (O _ (.inl rfl)) e,d⟩
  .refine X1pp (cc z a hz) λo e d=>?_;exact⟨o,B _ _ (O _ (.inr ⟨z,hz⟩)) e,d⟩
  .exact LocAt.map (rr z j av hj hm) (λh2=>rep h2) (λZ h1=>h1) (λZ h1=>h1)
 .have bC:∀{a o},b.2.heap.get? a=some o->a≠C:=λe z=>by rw[z,U]at e;exact nS e
  have f:=hs.frm;exact⟨⟨λa o e d=>B a o (bC e) (f.ext.obj a o e d)⟩,λa o e d g x=>by
   refine X1pp (f.frm a o e d g x) λu Y r=>?_;exact⟨u,B a u (bC e) Y,r⟩,f.dom,λa o e=>by
   refine X1p (f.there a o e) λu Y=>?_;exact⟨u,B a u (bC e) Y⟩⟩
theorem ItStep.step{W P O:Addr->Prop}{AC:Store}{Ak Aj:af}(st:ItStep W s Aj)(new:∀a,W a->Ak.heap.get? a=aa)(z:Step P O AC Ak V s):Step P O AC Ak V Aj :=
 z.over λc e o=>st.keep c o λz=>e.elim λo e=>Am (new c z) e
inductive CEnd(F:Fx S)(i:Nat)(m:Vars)(K:List AV->Store->Prop)(D:Addr)(AC:Store)(Ak s':af):Prop
 |mk (V':Store)(Aq:Vars)(ys:List AV)(vs:List Value)(n:Nat)(st:Step F.P F.O AC Ak V' s')(h:F.St Aq V' s')(hm:∀j,j≠i->Aq j=m j)(g:s'.heap.get? D=some (AH (az vs) n))(rl:RepL S.cv s'.heap (F.D V') ys vs)(k:K ys V'):CEnd F i m K D AC Ak s'
inductive CInv(F:Fx S)(i:Nat)(elt:E)(cs:List E)(ok:Store->Store->Prop)(m:Vars)(K:List AV->Store->Prop)(items:List AV)(J:Nat->Store->af->Prop)(D:Addr)(AC:Store)(Ak:af)(n:Nat)(s':af):Prop
 |mk (k:Nat) (Aq:Vars) (V':Store) (ys:List AV) (vs:List Value) (nn:Nat) (hn:n+k=items.length+1) (hk:k<=items.length) (hv:vs.length<=k) (st:Step F.P F.O AC Ak V' s') (h:F.St Aq V' s') (hm:∀j,j≠i->Aq j=m j) (hJ:J k V' s')
  (g:s'.heap.get? D=some (AH (az vs) nn)) (rl:RepL S.cv s'.heap (F.D V') ys vs) (c:FH F i elt cs ok m K (items.drop k) ys V'):CInv F i elt cs ok m K items J D AC Ak n s'
set_option tactic.hygienic true in
theorem LM{I D:Addr}{items:List AV}{x:Str}{px:Pos}{W:Addr->Prop}{J:Nat->Store->af->Prop}{ok:Store->Store->Prop}{i:Nat}{elt:E}{cs:List E}{pelt piter:aj}{pcs:List aj}{scope:Scope}{pos:Pos}{m₀:Vars}{K:List AV->Store->Prop}{AC:Store}{Ak:af}
  (Wk:Walk F I items (.Name x px) W J ok) (hf:F.sc.lookup x≠some .free) (hx:IsV F.tb F.sc x i) (hlen:items.length<=big) (he:CE F.tb F.sc pelt elt) (hcs:CEs F.tb F.sc pcs cs)
  (new:∀a,W a->F.b.2.heap.get? a=aa) (hN:∀a,W a->¬F.N a) (hD:F.N D) (hDO:¬F.O D) (hDP:¬F.P D) (hDb:F.b.2.heap.get? D=aa) (hD0:Ak.heap.get? D=aa)
  (new0:∀a,W a->Ak.heap.get? a=aa) (hs:F.St m₀ V s) (st0:Step F.P F.O AC Ak V s) (hm0:∀j,j≠i->m₀ j=m j) (gD:s.heap.get? D=some (AH #[] 0)) (hJ:J 0 V s) (h:FH F i elt cs ok m K items [] V) :
  codeAny (model S.prog S.w) F.A (.compLoop (.ListComp pelt [⟨.Name x px,piter,pcs,0⟩] scope pos) 0 (.ref I) (.ref D) F.env) (λr s'=>match r with
   |.ok _=>CEnd F i m K D AC Ak s'
   |.error _=>False) s:=by
 have wD:¬W D:=λq=>hN D q hD
 refine Gm (CInv F i elt cs ok m K items J D AC Ak) ?_ (items.length+1)
  ⟨0,m₀,V,[],[],0,rfl,di _,ay _,st0,hs,hm0,hJ,gD,.nil,h⟩
 intro n Ac hR1;obtain⟨k,Aq,Aa,ys,vs,nn,hn,hk,hv,Ai,Ad,Dl,DV,g₁,B,hl⟩:=hR1;have its:=Wk.its k Aa Ac DV;have dom_D:∀{V':Store}{s':af}{m':Vars},F.St m' V' s'->¬(Dom V' D\/F.O D\/F.P D):=λq d=>d.elim (λd=>q.inv.σN D d hD) λd=>d.elim hDO hDP
 by_cases Y:k<items.length
 .obtain⟨y,hy⟩:∃y,items[k]?=some y:=⟨_,aA Y⟩
  have hd:items.drop k=y::items.drop (k+1):=by
   rw[List.drop_eq_getElem_cons Y];rw[aA Y]at hy;obtain rfl:=ae hy;rfl
  rw[hd]at hl;refine Wk.next k y Aq Aa Ac _ _ _ hy Ad DV λv Aj u rv H7=>?_;have Ah:F.St Aq Aa Aj:=Ad.it its new hN u;have g₂:=u.keep D _ wD g₁;have rl₂:=B.it its u.keep;refine wpAny_assign_Name (BJ hf hx Ah rv λBI A0 AS=>?_);rw[set_over Dl]at AS;refine(TestT.run hl hcs AS).out ?_
  rintro b Cj Bv BP Br q
  have T:=A0.trans BP;have g₄:=T.ext.obj D _ g₂ (dom_D Ah);have rl₄:=rl₂.st T Br;have st':=(u.step new0 Ai).trans T
  cases b with
  |false =>
   simp only[cg,if_false]at q ⊢;exact⟨n - 1,lin [n - 1,n] [] (.c V0 V1) [.d (.A V0 K1) V1] rfl (ak (lin [n,k,items.length] [] (.b K1 V0) [.D (-1) (.A V0 V1) (.A V2 K1),.c V1 V2] rfl hn Y)),k+1,_,Cj,ys,vs,nn,ar (lin [n,k,items.length,n - 1] [] (.b (.A V3 (.A V1 K1)) (.A V2 K1)) [.d (.A V0 V1) (.A V2 K1),.d (.A V3 K1) V0] rfl hn (ak (lin [n,k,items.length] [] (.b K1 V0) [.D (-1) (.A V0 V1) (.A V2 K1),.c V1 V2] rfl hn Y))) (lin [n,k,items.length,n - 1] [] (.b (.A V2 K1) (.A V3 (.A V1 K1))) [.D (-1) (.A V0 V1) (.A V2 K1),.b V0 (.A K1 V3)] rfl hn (aq.mp (ay ((n) - (1))))),Y,lin [vs.length,k] [] (.b V0 (.A V1 K1)) [.b V0 V1] rfl hv,st',Br,λj hj=>by unfold Vars.set;rw[if_neg hj],Wk.stays _ _ _ _ _ _ _ F.O Ah.own hN H7 Ah T Br q.1,g₄,rl₄,q.2⟩
  |true =>
   simp only[if_true]at q ⊢;refine(q _ he Bv Br).out ?_;intro v5 En FM Ep Fq hR1;obtain⟨e5,r5,hok,hrest⟩:=hR1;have g₅:=Ep.ext.obj D _ g₄ (dom_D Br);have rl₅:=rl₄.st Ep Fq;refine wpAny_list_append_plain (items:=vs.toArray) ⟨nn,g₅⟩ (λh' pl sb=>?_) (by rw[aF];exact Bk (lin [items.length,big,vs.length,k] [] (.b V2 V1) [.b V0 V1,.b V2 V3,.c V3 V0] rfl hlen hv Y))
   refine X1p pl λn6 g₆=>?_;obtain⟨h₆,U⟩:=Fq.turnN hD hDO hDb sb.extBut ⟨_,g₆,λvs z=>by exact nDf rfl z⟩
   have ee:vs.toArray.push v5=(vs++[v5]).toArray:=by simp
   rw[ee]at g₆;have stN:Step F.P F.N Aa Aj En { FM with heap:=h' }:=((T.trans Ep).mono Ah.own).trans (U.mono λa q=>q▸hD)
   have rl₆:RepL S.cv h' (F.D En) (ys++[e5]) (vs++[v5]):=(RepL.snoc rl₅ r5).step U (λa q=>q▸hD) Fq.pN;have stD:Step F.P F.O AC Ak En { FM with heap:=h' }:=by
    exact(st'.trans Ep).over λa e o=>sb.extBut a o λq=>e.elim λo e=>by rw[q]at e;exact Am hD0 e
   exact⟨n - 1,lin [n - 1,n] [] (.c V0 V1) [.d (.A V0 K1) V1] rfl (ak (lin [n,k,items.length] [] (.b K1 V0) [.D (-1) (.A V0 V1) (.A V2 K1),.c V1 V2] rfl hn Y)),k+1,_,En,ys++[e5],vs++[v5],n6,ar (lin [n,k,items.length,n - 1] [] (.b (.A V3 (.A V1 K1)) (.A V2 K1)) [.d (.A V0 V1) (.A V2 K1),.d (.A V3 K1) V0] rfl hn (ak (lin [n,k,items.length] [] (.b K1 V0) [.D (-1) (.A V0 V1) (.A V2 K1),.c V1 V2] rfl hn Y))) (lin [n,k,items.length,n - 1] [] (.b (.A V2 K1) (.A V3 (.A V1 K1))) [.D (-1) (.A V0 V1) (.A V2 K1),.b V0 (.A K1 V3)] rfl hn (aq.mp (ay ((n) - (1))))),Y,by simp;exact lin [vs.length,k] [] (.b V0 V1) [.b V0 V1] rfl hv,stD,h₆,λj hj=>by unfold Vars.set;rw[if_neg hj],Wk.stays _ _ _ _ _ _ _ F.N (λZ q=>q) hN H7 Ah stN h₆ hok,g₆,rl₆,hrest⟩
 .have hk':k=items.length:=by exact ar (lin [k,items.length] [] (.b V0 V1) [.b V0 V1] rfl hk) (lin [k,items.length] [] (.b V1 V0) [.j V0 V1] rfl Y)
  clear hn hk hv Y;subst hk';rw[List.drop_length]at hl;refine Wk.done Aq Aa Ac _ _ Ad DV λAj u=>?_;exact⟨Aa,Aq,ys,vs,nn,u.step new0 Ai,Ad.it its new hN u,Dl,u.keep D _ wD g₁,B.it its u.keep,hl⟩
theorem CompOk.isV(c:CompOk F scope x i){D C:Addr}:(Bp c D C).sc.lookup x≠some .free/\IsV (Bp c D C).tb (Bp c D C).sc x i:=by
 have e:(Bp c D C).sc.lookup x=scope.names.lookup x:=by
  show (relabel scope F.env).names.lookup x=_;rw[BL]
  rcases c.var with q|q<;>rw[BA q,q]<;>rfl
 rw[e];refine⟨?_,c.ok,?_,c.ix⟩
 .rcases c.var with q|q<;>rw[q]<;>simp
 .rw[e];exact c.var.imp id .inl
theorem compT{u T:aj}{pcs:List aj}{px pos pos':Pos}{src elt:E}{cs:List E}{X:Value->af->Prop}{K:List AV->Store->Prop}{use:Option (Value->Sem Unit)}{Q:Value->af->Prop}(c:CompOk F scope x i)
  (hsrc:CE F.tb F.sc u src) (hcs:CEs F.tb (relab F.sc scope.names) pcs cs) (helt:CE F.tb (relab F.sc scope.names) T elt) (hns:Bd u=true)
  (h:SrcT F m V (.v i) src (λitems ok Aa=>items.length<=big/\∀F':Fx S,F'.tb=F.tb->F'.k=F.k->FH F' i elt cs ok m K items [] Aa) X) (hs:F.St m V s)
  (fin:∀(D C:Addr) σb sb Aa Ac Aq ys vs n,Step F.P F.O V s σb sb->F.St m σb sb->sb.heap.get? D=aa->sb.heap.get? C=aa->D≠C->B9 F scope sb C->Step F.P (Bp c D C).O σb sb Aa Ac->(Bp c D C).St Aq Aa Ac->(∀j,j≠i->Aq j=m j) ->
   Ac.heap.get? D=some (AH (az vs) n)->RepL S.cv Ac.heap ((Bp c D C).D Aa) ys vs->K ys Aa->compPost (model S.prog S.w) F.A X use Q (.ref D) C (.ok .next) Ac) :
  wpAny (model S.prog S.w) F.A (comprehension (.ListComp T [⟨.Name x px,u,pcs,0⟩] scope pos) scope F.env pos' (newList []) false (eval u F.env) use) Q X s:=by
 refine wpAny_comprehension_free (use:=use) rfl (Gb hns) c.closure c.kind (λq hq hl=>by have:=(c.names q hq).2;rw[hl]at this;exact this) ?_
 refine aJ (h u (.Name x px) hsrc trivial s hs) (λxv Ac Ad=>aJ Ad ?_ λZ Z e=>e) λZ Z e=>e;intro it B hR1;obtain⟨I,items,W,J,ok,Ab,sm,rfl,wk,stm,hm,st,Ah,nw,mv,hlen,Y⟩:=hR1;have d:=comp_in c Ah;generalize hDD:B.heap.objs.size=D at d;dsimp only at d;refine bW ?_ (by size_fits)
 have hC:(B.heap.push { cls:=.type "list",data:=.seq ([]:List Value).toArray }).objs.size=D+1:=by rw[<- hDD];exact cK ..
 refine GW ?_;dsimp only;rw[hC,hDD]
 show codeAny (model S.prog S.w) F.A (.compStart (.ListComp T [⟨.Name x px,u,pcs,0⟩] scope pos) 0 (.ref I) (.ref D) (EW F scope (D+1))) (compPost (model S.prog S.w) F.A X use Q (.ref D) (D+1))
  { B with heap:=fK ((B.heap.push (AH #[] 0)).push { cls:=.type "dict",data:=.dict #[] }) scope.names }
 obtain⟨Br,BP,g₄,cn,kp,hDN,hDO⟩:=d;have its:=(wk F).its 0 Ab B mv.here;have fD:B.heap.get? D=aa:=by rw[<- hDD];exact AB _
 have fC:B.heap.get? (D+1)=aa:=by
  cases q:B.heap.get? (D+1)with|none=>rfl|some o=>exact absurd (bc q) (by rw[hDD];exact cT.mpr (fU _))
 have sD:=st.new fD;have sC:=st.new fC;have cn0:B9 F scope sm (D+1):=⟨λa q=>(cn.out a q).imp id st.new⟩;have Wb:∀a,W a->F.b.2.heap.get? a=aa:=λa q=>hm.frm.new (nw a q);have WN:∀a,W a->¬(Bp c D (D+1)).N a:=by
  rintro a q (z|z|z)
  .refine X1pp (hm.inv.Nin a z) λo e nf=>?_;rw[nw a q]at e;exact nS e
  .refine X1pp (its a q) λo e Z=>?_;rw[z,fD]at e;exact nS e
  .rcases cn.out a z with⟨y,_,hy⟩|z
   .exact its.notOwn Ah q (.inr ⟨y,hy⟩)
   .refine X1pp (its a q) λo e Z=>?_;rw[z]at e;exact nS e
 have Db:F.b.2.heap.get? D=aa:=hm.frm.new sD;have hJ:=mv (Bp c D (D+1)) Ab { B with heap:=fK ((B.heap.push (AH #[] 0)).push { cls:=.type "dict",data:=.dict #[] }) scope.names } kp hDN λZ Z e=>e
 have scn:(Bp c D (D+1)).sc=relab F.sc scope.names:=BL F scope;have st0:Step F.P (Bp c D (D+1)).O Ab sm Ab { B with heap:=fK ((B.heap.push (AH #[] 0)).push { cls:=.type "dict",data:=.dict #[] }) scope.names }:=(st.trans BP).any
 have U:codeAny (model S.prog S.w) F.A (.compLoop (.ListComp T [⟨.Name x px,u,pcs,0⟩] scope pos) 0 (.ref I) (.ref D) (EW F scope (D+1))) (compPost (model S.prog S.w) F.A X use Q (.ref D) (D+1))
   { B with heap:=fK ((B.heap.push (AH #[] 0)).push { cls:=.type "dict",data:=.dict #[] }) scope.names }:=by
  refine dG (LM (F:=Bp c D (D+1)) (m:=m) (AC:=Ab) (Ak:=sm) (wk _) c.isV.1 c.isV.2 hlen (by rw[scn];exact helt) (by rw[scn];exact hcs) Wb WN (.inr (.inl rfl)) hDO (λq=>by refine X1pp (hm.inv.Nin D (hm.pN D q)) λo e Z=>?_;rw[sD]at e;exact nS e) Db sD nw Br st0 (λj hj=>if_neg hj) g₄ hJ (Y _ rfl rfl)) λr s' hr=>?_
  cases r with
  |error e=>exact hr.elim
  |ok f =>
   obtain⟨V',Aq,ys,vs,n,st',h',Dl,gD',rl',hK⟩:=hr
   have:=fin D (D+1) Ab sm V' s' Aq ys vs n stm hm sD sC (bO (eH D)) cn0 st' h' Dl gD' rl' hK
   cases use<;>exact this
 exact codeAny_compStart_list U ((wk (Bp c D (D+1))).self 0 Ab _ _ _ hJ U)
theorem ET.comp{B Y:E}{cs:List E}{X:Value->af->Prop}{Q:AV->Store->Prop}
  (h:SrcT F m V (.v i) B (λitems ok Aa=>items.length<=big/\∀F':Fx S,F'.tb=F.tb->F'.k=F.k->FH F' i Y cs ok m (λO Ab=>Fresh Ab (.list O) (.list O) Q) items [] Aa) X):ET F m V (.comp Y i B cs) Q X:=by
 intro pe hc s hs;refine X6p hc.inv λZ Z Z Z Z Z Z0=>?_;refine X1lpppppp pe Z0 λZ U z hns hok T Z1=>?_;refine B5 Z1 λd hix hcs u=>?_;have c:CompOk F _ _ i:=⟨U,z,hok,hix,T⟩;show wpAny _ _ (eval _ _) _ _ _;rw[eval_ListComp];refine compT (K:=λO Ab=>Fresh Ab (.list O) (.list O) Q) c d hcs u hns h hs ?_;intro D C σb sb Aa Ac Aq O vs n y hb hD hC hDC cn st Ad Dl gD rl hK;obtain⟨mc,_,ns,_⟩:=Ad.loc;refine⟨mc,ns,λh' sb'=>?_⟩;obtain⟨V',st',h2,av,ra,q⟩:=Iw c cn hb hD hC hDC st Ad Dl sb' gD rl (Np:=F.N) (λb q=>.inl q) (λb q=>q) (λq=>by refine X1pp (hb.inv.Nin C q) λo e nf=>?_;rw[hC]at e;exact nS e) hK
 exact⟨V',y.trans st',h2,av,ra,q⟩
theorem ST.assignComp{j:Nat}{src elt:E}{cs:List E}{X:Value->af->Prop}{K:Fl->Vars->Store->Prop}
  (h:SrcT F m V (.v i) src (λitems ok Aa=>items.length<=big/\∀F':Fx S,F'.tb=F.tb->F'.k=F.k->FH F' i elt cs ok m (λys Ab=>Fresh Ab (.list ys) (.list ys) (λa Ar=>K .next (m.set j a) Ar)) items [] Aa) X):ST F m V (.assign (.v j) (.comp elt i src cs)) K X:=by
 intro ps hc s hs;refine X3lpp ps hc.inv λZ Z Z hp he=>?_;refine X2ppp hp.inv λy py Z0 hf hx=>?_;subst Z0;have ev:=ET.comp (F:=F) (X:=X) h;refine X6p he.inv λpelt x xp u pcs scope Z2=>?_;refine X1ppppppp Z2 λp Z1 U hvar hns hok T Z3=>?_;refine B5 Z3 λhsrc hix hcs helt=>?_;subst Z1
 ···
    have c:CompOk F scope x i:=⟨U,hvar,hok,hix,T⟩;show wpAny _ _ (exec (.Assign [.Name y py] _ _) _) _ _ _
    cases hsw:(F.env.blockKind == .function && F.env.kindOf y == some .local && py.line == p.line && !(scope.names.any λ(n,k)=>n == y && (k == .local || k == .cell)))with
    |false =>
     refine wpAny_Assign_Name ((ev _ he s hs).out ?_) (by unfold swapsWith;exact congrArg pure hsw)
     intro v Aa Ac Ai Ad Y;obtain⟨a,ra,q⟩:=Y;exact BJ hf hx Ad ra λAj An Ah=>⟨.next,_,Aa,Ai.trans An,Ah,trivial,q⟩
    |true =>
     rw[exec_Assign_Name_used _ _ _ _ (by unfold swapsWith;exact congrArg pure hsw)]
     refine ac (cX (ac ?_));show wpAny _ _ (do let _ <- comprehension (.ListComp pelt [⟨.Name x xp,u,pcs,0⟩] scope p) scope F.env _ (newList []) false (eval u F.env) (some (PySem.assign (.Name y py) F.env))) _ _ s
     refine ac (aJ (compT (use:=some (PySem.assign (.Name y py) F.env)) (Q:=λZ s'=>∃V',Step F.P F.O V s V' s'/\∃a,F.St (m.set j a) V' s'/\K .next (m.set j a) V') (K:=λys Ab=>Fresh Ab (.list ys) (.list ys) (λa Ar=>K .next (m.set j a) Ar)) c hsrc hcs helt hns h hs ?_) ?_ λZ Z e=>e)
     .intro D C σb sb Aa Ac Aq ys vs n stb hb hD hC hDC cn st Ad Dl gD rl hK
      let Np:Addr->Prop:=λa=>F.N a\/a=C
      have nFC:¬F.N C:=λq=>by refine X1pp (hb.inv.Nin C q) λo e nf=>?_;rw[hC]at e;exact nS e
      obtain⟨mc,_,ns,_⟩:=Ad.loc;have nsC:Ac.heap.Ns C mc:=ns;obtain⟨V',B,h2,av,ra,q⟩:=Iw c cn hb hD hC hDC st Ad Dl (h':=Ac.heap) (Heap.SameBut.refl ..) gD rl (Np:=Np) (λb q=>q) (λb q=>.inl q) (λZ=>by refine X3ppp nsC λo Z Z e dd Z=>?_;exact⟨o,e,λvs z=>by rw[dd]at z;exact nDf rfl z⟩) hK
      let Fp:Fx S:=⟨F.A,F.tb,F.env,F.b,Np,F.k,F.room.wide (λZ q=>.inl q),F.fk,F.fg,F.fb,F.fc⟩
      have h2':Fp.St m V' Ac:=h2;show wpAny (model S.prog S.w) F.A (PySem.assign (.Name y py) F.env (.ref D)) _ _ Ac;refine wpAny_assign_Name (BJ (F:=Fp) hf hx h2' ra λAj An Ah=>?_);have nOC:¬F.O C:=λq=>nFC (hb.own C q);have nDC:¬Dom V' C:=λd=>h2'.inv.σN C d (.inr rfl);refine⟨mc,(by refine X3ppp nsC λo es ep e dd r=>?_;refine X1pppp (An.there' e nDC nOC) λo' e' Z d' Z=>?_;exact⟨o',es,ep,e',d'.trans dd,r⟩),λh' sb'=>?_⟩
      refine Ao (St.letGo (N:=F.N) Ah (.inr rfl) (λa q=>.inl q) hs.pN nFC hs.own (hb.frm.new hC) sb') λh3 Z=>?_;exact⟨V',((stb.trans B).trans An).over (λa e o=>sb'.extBut a o λq=>e.elim λo e=>by rw[q]at e;exact Am (stb.new hC) e),av,h3,q⟩
     .intro _ s' Y
      refine X1pp Y λV' B Z4=>?_;refine X1pp Z4 λa h' hk=>?_;exact ah (ah ⟨.next,_,V',B,h',trivial,hk⟩)
end
end
section
variable {S:Sta}
inductive Ty where
 |none
 |bool
 |int
 |str
 |tup
 |list
 |dict
noncomputable def Ty.name:Ty->String
 |.none => "NoneType"
 |.bool => "bool"
 |.int => "int"
 |.str => "str"
 |.tup => "tuple"
 |.list => "list"
 |.dict => "dict"
noncomputable def tyA(V:Store):AV->Option Ty
 |.none=>some .none
 |.bool _=>some .bool
 |.int _=>some .int
 |.str _=>some .str
 |.tup _=>some .tup
 |.list _=>some .list
 |.dict _=>some .dict
 |.loc a _=>match V a with
  |some (.list _)=>some .list
  |some (.dict _)=>some .dict
  |_=>aa
 |_=>aa
noncomputable def Ty.n:Ty->Nat
 |.none=>0
 |.bool=>1
 |.int=>2
 |.str=>3
 |.tup=>4
 |.list=>5
 |.dict=>6
noncomputable def isT(t u:Ty):Bool:=bV t.n u.n || (bV t.n 1 && bV u.n 2)
section
variable {F:Fx S}{m:Vars}{V:Store}{s:af}{X:Value->af->Prop}{Q:AV->Store->Prop}
theorem rep_ty{a:AV}{v:Value}{t:Ty}(r:Rep S.cv s.heap (F.D V) a v)(hs:F.St m V s)(h:tyA V a=some t):match t with
  |.none=>v=.none
  |.bool=>∃b,v=.bool b
  |.int=>∃n u,v=.int n u
  |.str=>∃x u,v=.str x u
  |.tup=>∃ad o,v=.ref ad/\s.heap.get? ad=some o/\o.cls=.type "tuple"
  |.list=>∃ad o,v=.ref ad/\s.heap.get? ad=some o/\o.cls=.type "list"
  |.dict=>∃ad o,v=.ref ad/\s.heap.get? ad=some o/\o.cls=.type "dict":=by
 cases a with
 |none=>obtain rfl:=ae h;exact r.inv
 |bool b=>obtain rfl:=ae h;exact⟨_,r.inv⟩
 |int n=>obtain rfl:=ae h;exact⟨n,r.inv⟩
 |str x=>obtain rfl:=ae h;exact⟨x,r.inv⟩
 |tup l=>obtain rfl:=ae h;obtain⟨a,b,c,e,f,_⟩:=r.inv;exact⟨a,_,e,f,rfl⟩
 |list l=>obtain rfl:=ae h;obtain⟨a,b,c,e,f,_⟩:=r.inv;exact⟨a,_,e,f,rfl⟩
 |dict l=>obtain rfl:=ae h;obtain⟨a,b,c,e,f,_⟩:=r.inv;exact⟨a,_,e,f,rfl⟩
 |loc ad z =>
  unfold tyA at h;dsimp only at h
  cases e:V ad with
  |none=>rw[e]at h;exact nS h
  |some o =>
   rw[e]at h
   cases o with
   |list l'=>obtain rfl:=ae h;obtain⟨vs,n,g,q⟩:=(hs.inv.rep ad _ e).inv;exact⟨ad,_,r.inv,g,rfl⟩
   |dict l'=>obtain rfl:=ae h;obtain⟨vs,n,g,q⟩:=(hs.inv.rep ad _ e).inv;exact⟨ad,_,r.inv,g,rfl⟩
   |_=>exact(Am rfl h).elim
 |_=>exact(Am rfl h).elim
theorem CT.isinst{a:AV}{j:Nat}{t u:Ty}(ha:tyA V a=some t)(y:S.cv j=.type u.name)(T:u≠.none)(h:Q (.bool (isT t u)) V):CT F m V (.builtin "isinstance") [a,.cls j] Q X:=by
 intro U s hs r;obtain⟨v,c,rfl,Y,B⟩:=r.two;have d:c=.type u.name:=B.inv.trans y;clear r B;subst d;have q:=rep_ty Y hs ha
 cases t with
 |none =>
  subst q
  cases u with|none=>exact absurd rfl T|bool=>exact PySem.IsiPair.NoneType_bool (Bi _ hs (.bool _) h)|int=>exact PySem.IsiPair.NoneType_int (Bi _ hs (.bool _) h)|str=>exact PySem.IsiPair.NoneType_str (Bi _ hs (.bool _) h)|tup=>exact PySem.IsiPair.NoneType_tuple (Bi _ hs (.bool _) h)|list=>exact PySem.IsiPair.NoneType_list (Bi _ hs (.bool _) h)|dict=>exact PySem.IsiPair.NoneType_dict (Bi _ hs (.bool _) h)
 |bool =>
  obtain⟨b,rfl⟩:=q
  cases u with|none=>exact absurd rfl T|bool=>exact PySem.IsiPair.bool_bool (now hs (.bool _) h)|int=>exact PySem.IsiPair.bool_int (now hs (.bool _) h)|str=>exact PySem.IsiPair.bool_str (Bi _ hs (.bool _) h)|tup=>exact PySem.IsiPair.bool_tuple (Bi _ hs (.bool _) h)|list=>exact PySem.IsiPair.bool_list (Bi _ hs (.bool _) h)|dict=>exact PySem.IsiPair.bool_dict (Bi _ hs (.bool _) h)
 |int =>
  obtain⟨n,k,rfl⟩:=q
  cases u with|none=>exact absurd rfl T|bool=>exact PySem.IsiPair.int_bool (Bi _ hs (.bool _) h)|int=>exact PySem.IsiPair.int_int (now hs (.bool _) h)|str=>exact PySem.IsiPair.int_str (Bi _ hs (.bool _) h)|tup=>exact PySem.IsiPair.int_tuple (Bi _ hs (.bool _) h)|list=>exact PySem.IsiPair.int_list (Bi _ hs (.bool _) h)|dict=>exact PySem.IsiPair.int_dict (Bi _ hs (.bool _) h)
 |str =>
  obtain⟨x,k,rfl⟩:=q
  cases u with|none=>exact absurd rfl T|bool=>exact PySem.IsiPair.str_bool (Bi _ hs (.bool _) h)|int=>exact PySem.IsiPair.str_int (Bi _ hs (.bool _) h)|str=>exact PySem.IsiPair.str_str (now hs (.bool _) h)|tup=>exact PySem.IsiPair.str_tuple (Bi _ hs (.bool _) h)|list=>exact PySem.IsiPair.str_list (Bi _ hs (.bool _) h)|dict=>exact PySem.IsiPair.str_dict (Bi _ hs (.bool _) h)
 |tup =>
  obtain⟨ad,o,rfl,e,d⟩:=q
  cases u with|none=>exact absurd rfl T|bool=>exact PySem.IsiPair.tuple_bool e d (Bi _ hs (.bool _) h)|int=>exact PySem.IsiPair.tuple_int e d (Bi _ hs (.bool _) h)|str=>exact PySem.IsiPair.tuple_str e d (Bi _ hs (.bool _) h)|tup=>exact PySem.IsiPair.tuple_tuple e d (now hs (.bool _) h)|list=>exact PySem.IsiPair.tuple_list e d (Bi _ hs (.bool _) h)|dict=>exact PySem.IsiPair.tuple_dict e d (Bi _ hs (.bool _) h)
 |list =>
  obtain⟨ad,o,rfl,e,d⟩:=q
  cases u with|none=>exact absurd rfl T|bool=>exact PySem.IsiPair.list_bool e d (Bi _ hs (.bool _) h)|int=>exact PySem.IsiPair.list_int e d (Bi _ hs (.bool _) h)|str=>exact PySem.IsiPair.list_str e d (Bi _ hs (.bool _) h)|tup=>exact PySem.IsiPair.list_tuple e d (Bi _ hs (.bool _) h)|list=>exact PySem.IsiPair.list_list e d (now hs (.bool _) h)|dict=>exact PySem.IsiPair.list_dict e d (Bi _ hs (.bool _) h)
 |dict =>
  obtain⟨ad,o,rfl,e,d⟩:=q
  cases u with|none=>exact absurd rfl T|bool=>exact PySem.IsiPair.dict_bool e d (Bi _ hs (.bool _) h)|int=>exact PySem.IsiPair.dict_int e d (Bi _ hs (.bool _) h)|str=>exact PySem.IsiPair.dict_str e d (Bi _ hs (.bool _) h)|tup=>exact PySem.IsiPair.dict_tuple e d (Bi _ hs (.bool _) h)|list=>exact PySem.IsiPair.dict_list e d (Bi _ hs (.bool _) h)|dict=>exact PySem.IsiPair.dict_dict e d (now hs (.bool _) h)
theorem ET.cls{j:Nat}(d:Glob S j (S.cv j))(h:Q (.cls j) V):ET F m V (.g j) Q X:=by
 intro pe y s hs;refine X2lp pe y.inv λZ Z u=>?_;exact Dj u d hs (now hs (.cls j) h)
theorem CT.lenTup{l:List AV}(hz:l.length<=big)(h:Q (.int l.length) V):CT F m V (.builtin "len") [.tup l] Q X:=by
 intro U s hs r;refine X1lp U r.one λv y=>?_
 .refine X3lppp v y.inv λad vs n e d T=>?_
  have ht:IsTup s.heap ad vs.toArray:=⟨_,e,rfl,n,rfl⟩;refine len_tuple ht (by rw[aF,T.length];exact gq.mp (Gx hz)) ?_
  rw[aF,T.length];exact Bi _ hs (.int _ _) h
theorem CT.lenDict{a:AV}{l:List (Ag×AV)}(ha:dd V a=some l)(hz:l.length<=big)(h:Q (.int l.length) V):CT F m V (.builtin "len") [a] Q X:=by
 intro U s hs r;refine X1lp U r.one λv z=>?_;refine X3lppp v (z.dctE hs ha) λad es n e u T=>?_;have y:s.heap.get? ad=some (A5 es.toArray n):=e;refine call_len_slot (n:=l.length) e.typeIs PySem.F.slot_dict_len (λB hq=>?_) (lin [l.length] [] (.l (.c V0) K0) [] rfl) (Gx hz) (Bi _ hs (.int _ _) h);refine dr PySem.F.slot_dict_len (s:=s) ⟨_,y,rfl⟩ PySem.F.entry_dict_len ?_ (PySem.F.args_dict_len_1 _);show wpAny _ _ (dictSize ad >>= _) _ _ s;unfold dictSize;refine ac (ac (cO y rfl (ah ?_)));show wpAny _ _ (Builtin.Dict.pendingCount ad >>= _) _ _ s;refine ac (wpAny_pendingCount_other u ?_);refine ac (wpAny_mkInt (ah ⟨_,rfl,?_⟩));have d:es.toArray.size=l.length:=by rw[aF,T.length]
 rw[d,Nat.add_zero];exact hq
theorem CT.max2(hq:S.hx=aa){a b:Int}(h:Q (.int (if b > a then b else a)) V):CT F m V (.builtin "max") [.int a,.int b] Q X:=by
 intro U s hs r;refine X2lpp U r.two λv u y T=>?_;refine X1l v y.inv λZ=>?_;obtain⟨_,rfl⟩:=T.inv;refine max_two_ints (F.room.quiet hq) λh' tk k=>?_;refine Ao (hs.grow k tk) λY st=>?_
 by_cases c:b > a
 .rw[if_pos c]at h ⊢;exact⟨V,st.any,Y,_,.int _ _,h⟩
 .rw[if_neg c]at h ⊢;exact⟨V,st.any,Y,_,.int _ _,h⟩
theorem CT.min2(hq:S.hx=aa){a b:Int}(h:Q (.int (if b<a then b else a)) V):CT F m V (.builtin "min") [.int a,.int b] Q X:=by
 intro U s hs r;refine X2lpp U r.two λv u y T=>?_;refine X1l v y.inv λZ=>?_;obtain⟨_,rfl⟩:=T.inv;refine min_two_ints (F.room.quiet hq) λh' tk k=>?_;refine Ao (hs.grow k tk) λY st=>?_
 by_cases c:b<a
 .rw[if_pos c]at h ⊢;exact⟨V,st.any,Y,_,.int _ _,h⟩
 .rw[if_neg c]at h ⊢;exact⟨V,st.any,Y,_,.int _ _,h⟩
theorem CT.listList{a:AV}{l:List AV}(ha:dl V a=some l)(hz:l.length<=big)(h:Fresh V (.list l) (.list l) Q):CT F m V (.type "list") [a] Q X:=by
 intro U s hs r;refine X1lp U r.one λv u=>?_;obtain⟨ad,vs,n,rfl,e,O⟩:=u.lst hs.inv ha;refine call_list_seq ad (T := "list") (.inl rfl) e rfl rfl (λh' B k y=>BD (tk:=s.toks) hs k (AB _) y O h) (by rw[aF,O.length];exact Bk hz)
theorem CT.listTup{l:List AV}(hz:l.length<=big)(h:Fresh V (.list l) (.list l) Q):CT F m V (.type "list") [.tup l] Q X:=by
 intro U s hs r;refine X1lp U r.one λv z=>?_
 .refine X3lppp v z.inv λad vs n e d u=>?_
  exact call_list_seq ad (T := "tuple") (.inr rfl) e rfl rfl (λh' B k y=>BD (tk:=s.toks) hs k (AB _) y u h) (by rw[aF,u.length];exact Bk hz)
noncomputable def I3(V:Store)(a:AV):Option (List d5):=match BX V a with
 |some d=>(match d with
  |.list xs=>some xs
  |.tuple xs=>some xs
  |_=>aa)
 |aa=>aa
theorem FT{V:Store}{a:AV}{xs:List d5}(h:I3 V a=some xs):BX V a=some (.list xs)\/BX V a=some (.tuple xs):=by
 unfold I3 at h
 cases e:BX V a with
 |none=>rw[e]at h;exact nS h
 |some d =>
  rw[e]at h
  cases d with
  |list O=>obtain rfl:=ae h;exact .inl rfl
  |tuple O=>obtain rfl:=ae h;exact .inr rfl
  |_=>exact nS h
theorem KT.inSeq{a b:AV}{d:d5}{xs:List d5}{Q:Bool->Store->Prop}(ha:BX V a=some d)(hb:I3 V b=some xs)(u:cB xs=true)(Y:d.canLay0=true)(U:d.depth<=100)(h:Q (xs.any λy=>eV y d) V):KT F m V .In a b Q X:=by
 intro va vb s hs ra T;refine X1p (ra.readsS hs.inv ha) λas B=>?_;have z:F.A.units+1+min (cr xs) d.depth<cLine:=by have:=F.room.un;unfold cLine;exact lin [d.depth,F.A.units,F.k,min (cr xs) d.depth] [] (.c (.A (.A V1 K1) V3) Hv) [.b V0 FL,.c (.A V1 (.M 20 V2)) B7,.b V3 V0] rfl U this (Nat.min_le_right (cr xs) d.depth)
 rcases FT hb with e|e
 .refine X1p (T.readsS hs.inv e) λbs O=>?_
  exact PySem.SeqAt.in_list_reads O B u Y z ⟨V,Step.refl _ _ _ _,hs,_,rfl,h⟩
 .refine X1p (T.readsS hs.inv e) λbs O=>?_
  exact PySem.SeqAt.in_tuple_reads O B u Y z ⟨V,Step.refl _ _ _ _,hs,_,rfl,h⟩
theorem KT.notInSeq{a b:AV}{d:d5}{xs:List d5}{Q:Bool->Store->Prop}(ha:BX V a=some d)(hb:I3 V b=some xs)(u:cB xs=true)(Y:d.canLay0=true)(U:d.depth<=100)(h:Q (!xs.any λy=>eV y d) V):KT F m V .NotIn a b Q X:=by
 intro va vb s hs ra T;refine X1p (ra.readsS hs.inv ha) λas B=>?_;have z:F.A.units+1+min (cr xs) d.depth<cLine:=by have:=F.room.un;unfold cLine;exact lin [d.depth,F.A.units,F.k,min (cr xs) d.depth] [] (.c (.A (.A V1 K1) V3) Hv) [.b V0 FL,.c (.A V1 (.M 20 V2)) B7,.b V3 V0] rfl U this (Nat.min_le_right (cr xs) d.depth)
 rcases FT hb with e|e
 .refine X1p (T.readsS hs.inv e) λbs O=>?_
  exact PySem.SeqAt.notIn_list_reads O B u Y z ⟨V,Step.refl _ _ _ _,hs,_,rfl,h⟩
 .refine X1p (T.readsS hs.inv e) λbs O=>?_
  exact PySem.SeqAt.notIn_tuple_reads O B u Y z ⟨V,Step.refl _ _ _ _,hs,_,rfl,h⟩
theorem KT.inStr{x y:Str}{Q:Bool->Store->Prop}(h:Q (eI x y) V):KT F m V .In (.str y) (.str x) Q X:=by
 intro U B s hs u T;refine X1l U u.inv λZ=>?_;obtain⟨_,rfl⟩:=T.inv;exact SB.contains ⟨V,Step.refl _ _ _ _,hs,_,rfl,h⟩
theorem KT.notInDict{k:Ag}{b:AV}{l:List (Ag×AV)}{Q:Bool->Store->Prop}(hb:dd V b=some l)(h:Q (!(Cn l k).isSome) V):KT F m V .NotIn (sp k) b Q X:=by
 intro y B s hs Y T;refine X4lpp y Y.spot λt tx ty n e d=>?_;refine X3lpppp B (T.dct hs.inv hb) λad es n' e' z O U=>?_;refine X1pp (RepD.xs (S:=S) U) λxs u Z0=>?_;clear U;subst Z0;have q:=u.at_ k;refine wpAny_notIn_heap (CA F) (G7 e) z (Hn u O e') ⟨V,Step.toks _ _ _ _ _,hs.tok _,_,rfl,?_⟩
 have:(atKey xs (key k)).isSome=(Cn l k).isSome:=by
  revert q
  cases Cn l k<;>cases atKey xs (key k)<;>simp
 rw[this];exact h
end
end
section
variable {S:Sta}
structure Meth(nm:Str)(T id:String):Prop where
 pa:PlainAttrs T
 slot:Slot T nm id
 ty:typeOf (.builtin id)=pure (.type "method_descriptor")
section
variable {F:Fx S}{m:Vars}{V:Store}{s:af}{X:Value->af->Prop}{Q:AV->Store->Prop}{K:Fl->Vars->Store->Prop}
theorem rep_obj{a:AV}{v:Value}{t:Ty}(r:Rep S.cv s.heap (F.D V) a v)(hs:F.St m V s)(h:tyA V a=some t):s.TypeIs v t.name/\∀b,v=.ref b->∃ob,s.heap.get? b=some ob/\ob.dict=none:=by
 cases a with
 |none=>obtain rfl:=ae h;rw[show v=.none from r.inv];exact⟨rfl,nofun⟩
 |bool b=>obtain rfl:=ae h;rw[show v=.bool b from r.inv];exact⟨rfl,nofun⟩
 |int n=>obtain rfl:=ae h;refine X1l v r.inv λu=>?_;exact⟨rfl,nofun⟩
 |str x=>obtain rfl:=ae h;refine X1l v r.inv λu=>?_;exact⟨rfl,nofun⟩
 |tup l=>obtain rfl:=ae h;refine X3lpp v r.inv λa b c f Z=>?_;exact⟨⟨_,f,rfl⟩,λZ q=>bG q▸⟨_,f,rfl⟩⟩
 |list l=>obtain rfl:=ae h;refine X3lpp v r.inv λa b c f Z=>?_;exact⟨⟨_,f,rfl⟩,λZ q=>bG q▸⟨_,f,rfl⟩⟩
 |dict l=>obtain rfl:=ae h;refine X3lpp v r.inv λa b c f Z=>?_;exact⟨⟨_,f,rfl⟩,λZ q=>bG q▸⟨_,f,rfl⟩⟩
 |loc ad z =>
  rw[show v=.ref ad from r.inv]
  unfold tyA at h;dsimp only at h
  cases e:V ad with
  |none=>rw[e]at h;exact nS h
  |some o =>
   rw[e]at h
   cases o with
   |list l'=>obtain rfl:=ae h;refine X2pp ((hs.inv.rep ad _ e).inv) λvs n f q=>?_;exact⟨⟨_,f,rfl⟩,λZ q=>bG q▸⟨_,f,rfl⟩⟩
   |dict l'=>obtain rfl:=ae h;refine X2pp ((hs.inv.rep ad _ e).inv) λvs n f q=>?_;exact⟨⟨_,f,rfl⟩,λZ q=>bG q▸⟨_,f,rfl⟩⟩
   |_=>exact(Am rfl h).elim
 |_=>exact(Am rfl h).elim
theorem LX{o:aj}{nm:Str}{env:Env}{x:Sem Value}(h:Dz o=true):attributeBase o nm env x=x:=by
 cases o with
 |Call f as ks p =>
  cases f with
  |Name i q =>
   cases as with
   |nil =>
    cases ks with|nil=>exact(aQ h).elim|cons _ _=>rfl
   |cons _ _=>rfl
  |_=>rfl
 |_=>rfl
theorem Iy{pos:Pos}{B:List aj}{es:List E}(d:CEs F.tb F.sc B es)(U:B.length<29):((backTo pos (fh B F.env)).all (λx=>!x.1) && (backToKw pos (keywordEach [] F.env)).all (λx=>x.1.isSome)
   && decide (B.length+([]:List Keyword).length+(if ([]:List Keyword).isEmpty then 0 else 1)<30))=true:=by
 have Y:(backTo pos (fh B F.env)).all (λx=>!x.1)=true:=by
  have:=GU (pos:=pos) d
  rw[bU];intro x u;rw[List.any_eq_false]at this
  have:=this x u
  simpa using this
 have z:(backToKw pos (keywordEach [] F.env)).all (λx=>x.1.isSome)=true:=rfl;rw[Y,z]
 simp
 exact lin [B.length] [] (.c V0 K30) [.c V0 K29] rfl U
def ArgsT(F:Fx S)(m:Vars)(V:Store)(es:List E)(P:List AV->Store->Prop)(X:Value->af->Prop):Prop:=match es with
 |[]=>P [] V
 |es=>EsT F m V es P X
theorem ET.meth{o:E}{n:Nat}{nm:Str}{U:List E}(hn:ixS AT nm=some n)
  (h:ET F m V o (λa Aa=>∃t u,Meth nm (Ty.name t) u/\tyA Aa a=some t/\ArgsT F m Aa U (λB Ab=>CT F m Ab (.builtin u) (a::B) Q X) X) X):ET F m V (.meth o n U) Q X:=by
 intro pe hc s hs;obtain⟨po,a,ap,z,p,rfl,O,d,Y,ho,hk,ha⟩:=hc.inv
 have:a=nm:=BN hk hn
 clear hn;subst this;refine wpAny_Call_method_lateS (LX O) (Iy ha Y) (by simpa using d) ((h _ ho s hs).out ?_)
 intro ov Aa Ac Ai Ad hR1;obtain⟨av,ra,t,u,hm,hty,y⟩:=hR1;refine Ao (rep_obj ra Ad hty) λhT hd=>?_;refine⟨t.name,u,hm.pa,hm.slot,hm.ty,hT,λb e=>hd b e,?_⟩
 cases U with
 |nil =>
  obtain rfl:=ha.inv_nil;refine EN (Callable.builtin u) Ad ?_;exact(y [ov] Ac Ad (.cons ra .nil)).later Ai
 |cons e0 r0 =>
  refine X2lppp z ha.inv λZ Z hn1 Z0 hr1=>?_;refine CX (.cons hn1 Z0 hr1) (Callable.builtin u) y Ad ?_;intro T B Ab Aj An Ah rl q;exact(q (ov::T) Aj Ah (.cons (ra.st An Ah) rl)).later (Ai.trans An)
theorem KO:ixS AT "append"=some 0:=by decide +kernel
theorem ix_pop:ixS AT "pop"=some 1:=by decide +kernel
theorem KN:ixS AT "insert"=some 2:=by decide +kernel
theorem ix_clear:ixS AT "clear"=some 3:=by decide +kernel
theorem ix_get:ixS AT "get"=some 6:=by decide +kernel
theorem ix_join:ixS AT "join"=some 8:=by decide +kernel
theorem GZ:Meth "append" (Ty.name .list) "list.append":=⟨dP,PySem.F.slot_list_append,PySem.F.type_list_append⟩
theorem meth_pop:Meth "pop" (Ty.name .list) "list.pop":=⟨dP,PySem.F.slot_list_pop,PySem.F.type_list_pop⟩
theorem KC:Meth "join" (Ty.name .str) "str.join":=⟨PySem.F.plainAttrs_str,PySem.F.slot_str_join,PySem.F.type_str_join⟩
theorem Dw{ad:Addr}{l l':List AV}{h':Heap}{vs:List Value}{n:Nat}{s':af}(hs:F.St m V s)(U:V ad=some (.list l))(k:dn ad s.heap h')(e:h'.get? ad=some (AH vs.toArray n))(r:RepL S.cv s.heap (F.D V) l' vs) :
  F.St m (V.set ad (.list l')) { s with heap:=h' }/\Step F.P F.O V s (V.set ad (.list l')) { s with heap:=h' }:=by
 have y:Dom V ad:=by unfold Dom;rw[U];simp
 have z:Ext (F.D V) s.heap h':=Ext.of_but λb o d e=>k b o (λq=>d (.inl (q▸y))) e;obtain⟨Y,st⟩:=hs.upd (h':=h') y (λc o ne e=>k c o ne e) s.toks (o:=.list l') (.list e (r.ext z λb q=>.inl (q.imp (λq=>(A3 q).elim (λ(q:b=ad)=>by rw[q];exact y) id) id)))
 exact⟨Y,st.any⟩
theorem CT.append{ad:Addr}{ii:Nat}{l:List AV}{x:AV}(d:V ad=some (.list l))(hz:l.length<=big)(h:Q .none (V.set ad (.list (l++[x])))):CT F m V (.builtin "list.append") [.loc ad ii,x] Q X:=by
 intro U s hs r;refine X2lpp U r.two λv u y O=>?_;refine X3ppp (y.lst hs.inv (BS d)) λad' vs n Z0 e T=>?_;subst Z0;obtain rfl:=(bG y.inv).symm;refine wpAny_list_append_plain (items:=vs.toArray) ⟨n,e⟩ (λh' Y B=>?_) (by rw[aF,T.length];exact Bk hz)
 refine X1p Y λn' z=>?_;have ee:vs.toArray.push u=(vs++[u]).toArray:=by simp
 rw[ee]at z;refine Ao (Dw (s':=s) hs d B.extBut z (T.snoc O)) λh1 st=>?_;exact⟨_,st,h1,_,.none,h⟩
theorem RepL.dropLast{cv:Nat->Value}{h:Heap}{D:Addr->Prop}{l:List AV}{vs:List Value}(r:RepL cv h D l vs):RepL cv h D l.dropLast vs.dropLast:=by
 rw[List.dropLast_eq_take,List.dropLast_eq_take,r.length];exact r.take _
theorem CT.pop{ad:Addr}{ii:Nat}{l:List AV}{x:AV}(ho:V ad=some (.list l))(hx:l.getLast?=some x)(hz:l.length<=big)(h:Q x (V.set ad (.list l.dropLast))):CT F m V (.builtin "list.pop") [.loc ad ii] Q X:=by
 intro U s hs r;refine X1lp U r.one λv O=>?_;refine X3ppp (O.lst hs.inv (BS ho)) λad' vs n Z0 e y=>?_;subst Z0;obtain rfl:=(bG O.inv).symm;have T:l[l.length - 1]?=some x:=by rw[<- List.getLast?_eq_getElem?];exact hx
 refine X1pp (y.get T) λu hu ru=>?_;have hy:vs.toArray[vs.toArray.size - 1]?=some u:=by rw[aF,y.length];simpa using hu
 refine call_meets PySem.F.slot_list_pop ⟨_,e,rfl⟩ PySem.F.entry_list_pop (PySem.F.args_list_pop_1 _) (PySem.MeetsSeq.list_pop_last ad vs.toArray n u hy (by rw[aF,y.length];exact Bk hz)) ⟨e,?_⟩
 have Y:vs≠[]:=by rintro rfl;simp at hy
 have ee:vs.toArray.eraseIdxIfInBounds (vs.toArray.size - 1)=vs.dropLast.toArray:=by
  have B:vs.length - 1<vs.length:=by have:=List.length_pos_iff.mpr Y;exact lin [vs.length - 1,vs.length] [] (.c V0 V1) [.d (.A V0 K1) V1] rfl (ak (lin [vs.length] [] (.b K1 V0) [.c K0 V0] rfl this))
  simp only[aF,Array.eraseIdxIfInBounds,aF,B,dif_pos];simp[List.eraseIdx_length_sub_one]
 have hk:dn ad s.heap (s.heap.update ad (bq λxs=>xs.eraseIdxIfInBounds (vs.toArray.size - 1))):=(bK ..).extBut;have z:bq (λxs=>xs.eraseIdxIfInBounds (vs.toArray.size - 1)) (AH vs.toArray n)=AH vs.dropLast.toArray (if (vs.dropLast.toArray.size == vs.toArray.size) then n else n+1):=by
  simp only[bq,ee]
 have e':=bM (bq λxs=>xs.eraseIdxIfInBounds (vs.toArray.size - 1)) e (by rw[z];rfl)
 rw[z]at e';refine Ao (Dw (s':=s) hs ho hk e' y.dropLast) λh1 st=>?_;exact⟨_,st,h1,_,ru.st st h1,h⟩
noncomputable def BH(l:List (Ag×AV))(k:Ag)(x:AV):List (Ag×AV):=if (Cn l k).isSome then l.map (λp=>if p.1=k then (k,x) else p) else l++[(k,x)]
theorem EY{cv:Nat->Value}{h:Heap}{D:Addr->Prop}{l:List (Ag×AV)}{xs:List (List Int×Addr×Value)}(r:XsOf cv h D l xs)(k:Ag):(atKey xs (key k)).isSome=(Cn l k).isSome:=by
 have q:=r.at_ k
 revert q
 cases Cn l k<;>cases atKey xs (key k)<;>simp
theorem XsOf.put{cv:Nat->Value}{h:Heap}{D:Addr->Prop}{k:Ag}{x:AV}{v:Value}(T:Rep cv h D x v){l:List (Ag×AV)}{xs:List (List Int×Addr×Value)}(r:XsOf cv h D l xs):XsOf cv h D (l.map (λp=>if p.1=k then (k,x) else p)) (xs.map (putAt (key k) v)):=by
 induction r with
 |nil=>exact .nil
 | @cons k' u l t _ _ _ O xs e d r rs y =>
  rw[bQ,bQ]
  by_cases q:k'=k
  .subst q
   have:putAt (key k') v (key k',t,O)=(key k',t,v):=by simp[putAt]
   rw[this];simp only[if_true];exact .cons e d T y
  .have U:¬key k'=key k:=λz=>q (G3 z)
   have:putAt (key k) v (key k',t,O)=(key k',t,O):=by simp[putAt,U]
   rw[this];simp only[if_neg q];exact .cons e d r y
theorem XsOf.snoc{cv:Nat->Value}{h:Heap}{D:Addr->Prop}{k:Ag}{x:AV}{t:Addr}{B T:Tok}{n:Nat}{v:Value}(e:h.get? t=some (By #[.int k.1 B,.int k.2 T] n))(d:¬D t)(O:Rep cv h D x v) :
  ∀{l:List (Ag×AV)}{xs:List (List Int×Addr×Value)},XsOf cv h D l xs->XsOf cv h D (l++[(k,x)]) (xs++[(key k,t,v)]):=by
 intro l xs r
 induction r with|nil=>exact .cons e d O .nil|cons Y z U _ y=>exact .cons Y z U y
theorem LG{l:List (Ag×AV)}{k:Ag}(h:Cn l k=aa):∀p∈l,p.1≠k:=by
 unfold Cn at h;rw[Option.map_eq_none_iff,List.find?_eq_none]at h;intro p d e;exact h p d (by simp[e])
set_option tactic.hygienic true in
theorem EJ{l:List (Ag×AV)}(k:Ag)(x:AV)(h:(l.map (·.1)).Nodup):((BH l k x).map (·.1)).Nodup:=by
 unfold BH
 split
 .have:(l.map (λp=>if p.1=k then (k,x) else p)).map (·.1)=l.map (·.1):=by
   rw[aY];apply cI;intro p _;simp only[Function.comp_apply]
   split
   .rename_i q;exact q.symm
   .rfl
  rw[this];exact h
 .rename_i q
  have U:Cn l k=aa:=by simpa using q
  rw[bB,cC];refine⟨h,by simp,?_⟩
  intro a ha b z e;simp at z;obtain⟨p,d,rfl⟩:=aW.mp ha;exact LG U p d (e.trans z)
theorem Dp{h:Heap}{d:Addr}{xs:List (List Int×Addr×Value)}(O:h.DictOfH (dB (d6 S.prog S.w)) d xs):∃n,h.get? d=some (A5 (xs.map (entryOfKey (dB (d6 S.prog S.w)))).toArray n):=by
 obtain⟨o,es,ep,U,⟨T,z,Y⟩,y,B,_,_⟩:=O;refine⟨ep,?_⟩;obtain⟨c,dx,dt,u⟩:=o;simp only at T z Y y;subst T z Y y
 have:es=(xs.map (entryOfKey (dB (d6 S.prog S.w)))).toArray:=by rw[<- B]
 rw[U,this]
theorem setItemD{ad:Addr}{l:List (Ag×AV)}{k:Ag}{x:AV}{y B:Value}{Q':Unit->af->Prop}(ho:V ad=some (.dict l))(hz:l.length<=big)(hs:F.St m V s)(rk:Rep S.cv s.heap (F.D V) (sp k) y)(rx:Rep S.cv s.heap (F.D V) x B)
  (h:∀s',F.St m (V.set ad (.dict (BH l k x))) s'->Step F.P F.O V s (V.set ad (.dict (BH l k x))) s'->Q' () s'):wpAny (model S.prog S.w) F.A (setItem (.ref ad) y B) Q' X s:=by
 refine X4lpp y rk.spot λt tx ty n e d=>?_;refine X3ppppp ((Rep.loc (cv:=S.cv) (h:=s.heap) (D:=F.D V) ad 0).dct hs.inv (CQ ho)) λad' es n' e1 e' sm nd rd=>?_;obtain rfl:=bG e1;obtain⟨xs,u,rfl⟩:=RepD.xs (S:=S) rd;have Y:xs.length=l.length:=by have:=rd.length;simpa using this
 refine wpAny_setItem_heap (CA F) (G7 e) (Hn u nd e') (λh' hm z=>?_) (by rw[Y];exact Bk hz)
 refine X1p (Dp hm) λn2 e2=>?_;have T:Dom V ad:=by unfold Dom;rw[ho];simp
 have e0:Ext (F.D V) s.heap h':=Ext.of_but λb o d e=>z.extBut b o (λq=>d (.inl (q▸T))) e;have hD:∀b,DN F.N (V.set ad (.dict (BH l k x))) b->DN F.N V b\/s.heap.get? b=aa:=λb q=>.inl (q.imp (λq=>(A3 q).elim (λ(q:b=ad)=>by rw[q];exact T) id) id)
 have U:XsOf S.cv s.heap (F.D V) (BH l k x) (storedH xs (key k) t B):=by
  unfold BH storedH;rw[EY u k]
  split
  .exact u.put rx
  .exact u.snoc e d rx
 refine Ao (hs.upd (h':=h') T (λc o ne e=>z.extBut c o ne e) (s.toks+(dB (d6 S.prog S.w)).draws (key k)) (o:=.dict (BH l k x)) (.dict e2 sm (EJ k x nd) (U.repD.ext e0 hD))) λh1 st=>?_;exact h _ h1 st.any
set_option tactic.hygienic true in
theorem ST.setitem{o i e:E}(hn:AK e=true)(h:ET F m V e (λx Aa=>ET F m Aa o (λa U=>ET F m U i (λk B=>∃ad z l kk,a=.loc ad z/\k=sp kk/\B ad=some (.dict l)/\l.length<=big/\K .next m (B.set ad (.dict (BH l kk x)))) X) X) X):ST F m V (.setitem o i e) K X:=by
 intro ps hc s hs;refine X5lpppp ps hc.inv λZ Z Z Z Z hns ho hi O=>?_;refine wpAny_Assign_Subscript ((h _ O s hs).out ?_) (Ca O hn);intro vx Aa Ac Ai Ad u;obtain⟨x,rx,AO⟩:=u;refine(AO _ ho Ac Ad).out ?_;intro va U Aj Y T u;obtain⟨a,ra,Bn⟩:=u;refine(Bn _ hi Aj T).out ?_;intro vk B BI A0 d u;obtain⟨k,rk,ad,z,l,kk,rfl,rfl,hd,hz,hK⟩:=u;obtain rfl:=ra.inv;refine setItemD hd hz d rk ((rx.st Y T).st A0 d) λs' h' y=>?_;exact⟨.next,m,_,((Ai.trans Y).trans A0).trans y,h',trivial,hK⟩
end
end
section
variable {S:Sta}
section
variable {tb:List Nat}{env:Env}{N Np:Addr->Prop}{b:Store×af}{m:Vars}{V:Store}{s:af}{D:Addr}
theorem Loc.map{h h':Heap}{V':Store}{g:Heap}{cv:Nat->Value}(l:Loc cv g tb env m N V h)(own:∀a o,Own env a->h.get? a=some o->h'.get? a=some o)(U:∀a,Own env a->¬Dom V' a)(r:∀{av v},Rep cv h (DN N V) av v->Rep cv h' (DN Np V') av v):Loc cv g tb env m Np V' h':=by
 obtain⟨T,cm,n,cc,O,ap,cl,u⟩:=l;refine⟨T,cm,?_,λz a hz=>?_,λa q=>⟨U a q,(O a q).2⟩,ap,cl,λz j av B y=>?_⟩
 .refine X3pp n λo es ep e d=>?_;exact⟨o,es,ep,own _ _ (.inl rfl) e,d⟩
 .refine X1pp (cc z a hz) λo e d=>?_;exact⟨o,own _ _ (.inr ⟨z,hz⟩) e,d⟩
 .exact LocAt.map (u z j av B y) (λh2=>r h2) (λZ Y=>Y) (λZ Y=>Y)
theorem St.apart{h':Heap}{tk:Nat}(hs:Internal.St S tb env N P b m V s)(k:∀b o,s.heap.get? b=some o->h'.get? b=some o)(U:s.heap.get? D=aa)(y:∃o,h'.get? D=some o/\∀vs,o.data≠.fields vs) :
  Internal.St S tb env (λa=>N a\/a=D) P b m V { s with heap:=h',toks:=tk }/\Step noO noO V s V { s with heap:=h',toks:=tk }:=by
 refine Ao (hs.grow k tk) λY st=>?_;have B:Ext (DN N V) s.heap h':=Ext.of_keeps k;have T:∀b,DN (λa=>N a\/a=D) V b->DN N V b\/s.heap.get? b=aa:=by
  rintro b (q|q|q)
  .exact .inl (.inl q)
  .exact .inl (.inr q)
  .exact .inr (q▸U)
 refine⟨⟨⟨Y.inv.keep,Y.inv.gens,Y.inv.drawn,Y.inv.os,Y.inv.σg,?_,?_,λa o e=>(hs.inv.rep a o e).ext B T (k a)⟩,?_,Y.frm,λa q=>.inl (hs.pN a q),hs.new,λa q=>.inl (hs.own a q),hs.gb⟩,st⟩
 .rintro a d (q|q)
  .exact hs.inv.σN a d q
  .exact hs.inv.not_dom (q▸U) d
 .rintro a (q|q)
  .exact Y.inv.Nin a q
  .exact q▸y
 .have O:=hs.loc
  obtain⟨_,_,_,_,O,_⟩:=O;exact hs.loc.map (λa o Z e=>k a o e) (λa q=>(O a q).1) λr=>r.ext B T
theorem St.open_(hs:Internal.St S tb env Np P b m V s)(hN:∀a,N a->Np a)(y:∀a,Own env a->N a)(T:∀a,P a->N a):Internal.St S tb env N P b m V s:=by
 have U:∀b,DN N V b->DN Np V b\/s.heap.get? b=aa:=λb q=>.inl (q.imp id (hN b));refine⟨⟨hs.inv.keep,hs.inv.gens,hs.inv.drawn,hs.inv.os,hs.inv.σg,λa d q=>hs.inv.σN a d (hN a q),λa q=>hs.inv.Nin a (hN a q),λa o e=>(hs.inv.rep a o e).ext (Ext.refl _ _) U λZ q=>q⟩,?_,hs.frm,T,hs.new,y,hs.gb⟩;have O:=hs.loc;obtain⟨_,_,_,_,O,_⟩:=O;exact hs.loc.map (λa o Z e=>e) (λa q=>(O a q).1) λr=>r.ext (Ext.refl _ _) U
theorem St.take{o:AObj}(hs:Internal.St S tb env (λa=>N a\/a=D) P b m V s)(y:∀a,Own env a->N a)(T:∀a,P a->N a)(U:¬N D)(B:b.2.heap.get? D=aa)(r:RepO S.cv s.heap (DN (λa=>N a\/a=D) V) o D):Internal.St S tb env N P b m (V.set D o) s:=by
 have u:∀b,DN N (V.set D o) b->DN (λa=>N a\/a=D) V b\/s.heap.get? b=aa:=λb q=>.inl (q.elim (λq=>(A3 q).elim (λq=>.inr (.inr q)) .inl) λq=>.inr (.inl q));refine⟨⟨hs.inv.keep,hs.inv.gens,hs.inv.drawn,hs.inv.os,λa d=>(A3 d).elim (λ(q:a=D)=>by rw[q];exact hs.gb D B) (hs.inv.σg a),λa d q=>(A3 d).elim (λ(z:a=D)=>U (z▸q)) λd=>hs.inv.σN a d (.inl q),λa q=>hs.inv.Nin a (.inl q),λa Y e=>?_⟩,?_,?_,T,hs.new,y,hs.gb⟩
 .by_cases z:a=D
  .clear hs U B;subst z;rw[Store.set_self]at e;obtain rfl:=ae e;exact r.ext (Ext.refl _ _) u λZ q=>q
  .rw[Store.set_ne _ _ z]at e;exact(hs.inv.rep a Y e).ext (Ext.refl _ _) u λZ q=>q
 .have O:=hs.loc
  obtain⟨_,_,_,_,O,_⟩:=O;exact hs.loc.map (λa o Z e=>e) (λa q d=>(A3 d).elim (λ(z:a=D)=>U (z▸y a q)) (O a q).1) λr=>r.ext (Ext.refl _ _) u
 .have f:=hs.frm
  exact⟨f.ext,f.frm,λa d=>(A3 d).elim (λ(z:a=D)=>.inr (by rw[z];exact B)) (f.dom a),f.there⟩
end
section
variable {F:Fx S}{m:Vars}{V:Store}{s:af}{X:Value->af->Prop}{Q:AV->Store->Prop}
noncomputable def Fx.with(F:Fx S)(D:Addr):Fx S:=⟨F.A,F.tb,F.env,F.b,λa=>F.N a\/a=D,F.k,F.room.wide (λZ q=>.inl q),F.fk,F.fg,F.fb,F.fc⟩
def Like(F F':Fx S):Prop:=F'.A=F.A/\F'.tb=F.tb/\F'.env=F.env/\F'.k=F.k
def E1(F:Fx S)(m:Vars)(X:Value->af->Prop)(Q:List (AV×AV)->Store->Prop):List E->List E->List (AV×AV)->Store->Prop
 |[],[],r,V=>Q r V
 |k::ks,v::vs,r,V=>ET F m V k (λa Aa=>ET F m Aa v (λb Ab=>E1 F m X Q ks vs (r++[(a,b)]) Ab) X) X
 |_,_,_,_=>False
class inductive RepP(cv:Nat->Value)(h:Heap)(D:Addr->Prop):List (AV×AV)->List (Value×Value)->Prop
 |nil:RepP cv h D [] []
 |cons {a b:AV}{u v:Value}{l:List (AV×AV)}{vs:List (Value×Value)}:Rep cv h D a u->Rep cv h D b v->RepP cv h D l vs->RepP cv h D ((a,b)::l) ((u,v)::vs)
theorem RepP.step{cv:Nat->Value}{P O N:Addr->Prop}{V V':Store}{s s':af}(x:Step P O V s V' s')(y:∀a,O a->N a)(d:∀a,P a->N a){l:List (AV×AV)}{vs:List (Value×Value)}(r:RepP cv s.heap (DN N V) l vs):RepP cv s'.heap (DN N V') l vs:=by
 induction r with|nil=>exact .nil|cons U B _ z=>exact .cons (U.step x y d) (B.step x y d) z
theorem RepP.app{cv:Nat->Value}{h:Heap}{D:Addr->Prop}{l l':List (AV×AV)}{vs y:List (Value×Value)}(r:RepP cv h D l vs)(d:RepP cv h D l' y):RepP cv h D (l++l') (vs++y):=by
 induction r with|nil=>exact d|cons B O _ Y=>exact .cons B O Y
theorem Ja{pos:Pos}{Q:List (AV×AV)->Store->Prop}{ks:List E}:∀{vs:List E}{U:List (Option aj)}{u:List aj}{r:List (AV×AV)}{V:Store}{s:af}{ru:List (Value×Value)}{Y:List (Value×Value)->af->Prop},CKs F.tb F.sc U ks->CEs F.tb F.sc u vs->E1 F m X Q ks vs r V->F.St m V s->RepP S.cv s.heap (F.D V) r ru ->
  (∀us d V' s',Step F.P F.O V s V' s'->F.St m V' s'->RepP S.cv s'.heap (F.D V') d (ru++us)->Q d V'->Y us s')->wpAny (model S.prog S.w) F.A (evalPairs (pairTrees U u F.env pos)) Y X s:=by
 induction ks with
 |nil =>
  intro vs U u r V s ru Y T z h hs rr hQ
  cases vs with
  |cons v vs=>exact h.elim
  |nil =>
   obtain rfl:=T.inv;obtain rfl:=z.inv_nil;exact pairTrees_nil_walk (hQ [] r V s (Step.refl _ _ _ _) hs (by rw[aL];exact rr) h)
 |cons k ks ih =>
  intro vs U u r V s ru Y T z h hs rr hQ
  cases vs with
  |nil=>exact h.elim
  |cons v vs =>
   obtain⟨pk,U,rfl,T,hks⟩:=T.inv;obtain⟨pv,u,rfl,hn,z,hvs⟩:=z.inv;refine pairTrees_cons_walk ((h _ T s hs).out ?_);intro uk Aa Ac Ai Ad y;obtain⟨a,ra,AO⟩:=y;refine(AO _ z Ac Ad).out ?_;intro uv Ab Aj An Ah y;obtain⟨b,rb,Bn⟩:=y;have rr2:=((rr.step Ai Ad.own Ad.pN).step An Ah.own Ah.pN).app (.cons (ra.st An Ah) rb .nil);refine ih hks hvs Bn Ah rr2 λus d V' s' st' h' B q=>hQ _ d V' s' ((Ai.trans An).trans st') h' ?_ q;rw[aM]at B;exact B
noncomputable def mkD:List (AV×AV)->List (Ag×AV)->Option (List (Ag×AV))
 |[],l=>some l
 |p::r,l=>(spot? p.1).bind λk=>mkD r (BH l k p.2)
theorem mkD_cons{a b:AV}{r:List (AV×AV)}{l l':List (Ag×AV)}(h:mkD ((a,b)::r) l=some l'):∃k:Ag,a=sp k/\mkD r (BH l k b)=some l':=by
 refine X1pp (AD (show (spot? a).bind (λk=>mkD r (BH l k b))=some l' from h)) λk Y z=>?_
 exact⟨k,spot?_out Y,z⟩
theorem JV{F:Fx S}{D:Addr}{Q':PUnit->af->Prop}(hDN:F.N D)(nO:¬F.O D)(bD:F.b.2.heap.get? D=aa)(sm:(D == cL)=false):∀{r:List (AV×AV)}{us:List (Value×Value)}{l l':List (Ag×AV)}{es:List aO}{n:Nat}{s:af},mkD r l=some l'->l.length+r.length<=big->F.St m V s->RepP S.cv s.heap (F.D V) r us ->
  s.heap.get? D=some (A5 es.toArray n)->(l.map (·.1)).Nodup->RepD S.cv s.heap (F.D V) l es ->
  (∀s' B n',F.St m V s'->Step F.P (·=D) V s V s'->s'.heap.get? D=some (A5 (az B) n')->(l'.map (·.1)).Nodup->RepD S.cv s'.heap (F.D V) l' B->Q' PUnit.unit s')->wpAny (model S.prog S.w) F.A (storeAll D us) Q' X s:=by
 intro r
 induction r with
 |nil =>
  intro us l l' es n s Y hz hs rr g nd rd hQ
  cases rr;obtain rfl:=ae Y
  exact ah (hQ s es n hs (Step.refl _ _ _ _) g nd rd)
 |cons p r ih =>
  intro us l l' es n s Y hz hs rr g nd rd hQ
  cases rr with
  | @cons a bb u v _ vs r1 r2 rs =>
   refine X1pp (mkD_cons Y) λkk Z0 Y=>?_;subst Z0
   .refine X4lpp u (Rep.spot (k:=kk) r1) λt tx ty n1 e d=>?_
    obtain⟨xs,hx,rfl⟩:=RepD.xs (S:=S) rd;have U:xs.length=l.length:=by have:=rd.length;simpa using this
    show wpAny _ _ (forIn _ _ _) _ _ _;rw[ej];refine ac (ac (wpAny_dictSet_heap (room_0 F) (G7 e) (Hn hx nd g) (λh' hmm sb=>?_) (by rw[U];exact Bk (lin [l.length,((sp kk,bb)::r).length,big] [] (.b V0 V2) [.b (.A V0 V1) V2] rfl hz))))
    refine X1p (Dp hmm) λn2 e2=>?_;obtain⟨h2,T⟩:=(hs.tok (s.toks+(dB (d6 S.prog S.w)).draws (key kk))).turnN (h':=h') hDN nO bD sb.extBut ⟨_,e2,λvs z=>by exact nDf rfl z⟩
    have y:Step F.P (·=D) V s V { s with heap:=h',toks:=s.toks+(dB (d6 S.prog S.w)).draws (key kk) }:=⟨T.ext,T.frm,T.dom,T.there⟩
    have hO:∀a,a=D->F.N a:=λa q=>q▸hDN;have xs':XsOf S.cv s.heap (F.D V) (BH l kk bb) (storedH xs (key kk) t v):=by
     unfold BH storedH;rw[EY hx kk]
     split
     .exact hx.put r2
     .exact hx.snoc e d r2
    have hd:(BH l kk bb).length<=l.length+1:=by unfold BH;split<;>simp
    refine ah (ih Y (by have hz':l.length+(r.length+1)<=big:=hz;have hd':(BH l kk bb).length<=l.length+1:=hd;exact aw (Nat.add_le_add_right hd' _) (lin [l.length,r.length,big] [] (.b (.A (.A V0 K1) V1) V2) [.b (.A V0 (.A V1 K1)) V2] rfl hz')) h2 (rs.step y hO hs.pN) e2 (EJ _ _ nd) (xs'.repD.step y hO hs.pN) λs' B n' h3 st3 g3 nd3 rd3=>?_)
    exact hQ s' B n' h3 (y.trans st3) g3 nd3 rd3
theorem CKs.len{tb:List Nat}{sc:Nms}{U:List (Option aj)}{ks:List E}(h:CKs tb sc U ks):U.length=ks.length/\U.all (·.isSome)=true:=by
 induction ks generalizing U with
 |nil=>obtain rfl:=h.inv;exact⟨rfl,rfl⟩
 |cons k ks y=>refine X2lpp U h.inv λe r Z q=>?_;exact⟨congrArg fS (y q).1,(y q).2⟩
theorem CEs.len{tb:List Nat}{sc:Nms}{U:List aj}{ks:List E}(h:CEs tb sc U ks):U.length=ks.length:=by
 induction ks generalizing U with
 |nil=>obtain rfl:=h.inv_nil;rfl
 |cons k ks y=>refine X2lppp U h.inv λe r Z Z q=>?_;exact congrArg fS (y q)
theorem ET.dict0(h:Fresh V (.dict []) (.dict []) Q):ET F m V (.dict [] []) Q X:=by
 intro pe d s hs;refine X3lpp pe d.inv λZ Z Z B z=>?_
 cases B;cases z
 exact wpAny_Dict_empty (EE (tk:=s.toks) (es:=[]) (l:=[]) hs (Ax _ _) (AB _) (aD _ rfl) .nil .nil h)
theorem ET.dict{k v:E}{ks vs:List E}(hlen:ks.length=vs.length)(h15:ks.length<15)(h:∀F':Fx S,Like F F'->E1 F' m X (λr V'=>∃l,mkD r []=some l/\r.length<=15/\Fresh V' (.dict l) (.dict l) Q) (k::ks) (v::vs) [] V):ET F m V (.dict (k::ks) (v::vs)) Q X:=by
 intro pe hc s hs;refine X3lpp pe hc.inv λpks pvs p hk hv=>?_;refine Ao ((CKs.len (ks:=k::ks) hk)) λl1 l2=>?_;have l3:=CEs.len (ks:=v::vs) hv;refine wpAny_Dict_any l2 (by rw[l1,l3];simp[hlen]) (by intro e;subst e;simp at l1) (by rw[l1];simp;exact lin [ks.length] [] (.b V0 K14) [.c V0 K15] rfl h15) ?_
 have T:s.heap.get? s.heap.objs.size=aa:=AB _;obtain⟨h1,st1⟩:=St.apart (D:=s.heap.objs.size) (tk:=s.toks) hs (Ax _ { cls:=.type "dict",data:=.dict #[] }) T ⟨_,aD _ rfl,λvs z=>by exact nDf rfl z⟩
 generalize hD:s.heap.objs.size=D at *;have g1:(s.heap.push { cls:=.type "dict",data:=.dict #[] }).get? D=some (A5 #[] 0):=by rw[<- hD];exact aD _ rfl
 have h1':(F.with D).St m V { s with heap:=s.heap.push { cls:=.type "dict",data:=.dict #[] } }:=h1
 have U:¬F.N D:=λq=>by refine X1pp (hs.inv.Nin D q) λo e nf=>?_;rw[T]at e;exact nS e
 have nO:¬F.O D:=λq=>U (hs.own D q);have bD:F.b.2.heap.get? D=aa:=hs.frm.new T;refine Ja (F:=F.with D) (ru:=[]) hk hv (h (F.with D) ⟨rfl,rfl,rfl,rfl⟩) h1' .nil ?_
 intro us r' Y Aj An Ah rr hR1;refine X1ppp hR1 λl hml hr15 hfr=>?_;have gD:=An.ext.obj D _ g1 (λd=>d.elim (λd=>h1'.inv.σN D d (.inr rfl)) λd=>d.elim nO λd=>U (hs.pN D d));refine JV (F:=F.with D) (V:=Y) (es:=[]) (l:=[]) (.inr rfl) nO bD (hs.inv.not_sm T) hml (by simp;exact aw hr15 (by decide)) Ah (by simpa using rr) gD .nil .nil ?_
 intro s' es' n' h3 u g3 nd3 B;have y:Step F.P F.O V s Y s':=by
  have z:=(st1.any (O:=F.O)).trans An;have nD':∀{a o},s.heap.get? a=some o->¬a=D:=λe q=>by rw[q,T]at e;exact nS e
  exact⟨⟨λa o e d=>u.ext.obj a o (z.ext.obj a o e d) λq=>q.elim (z.ndom e λq=>d (.inl q)) λq=>q.elim (nD' e) λq=>d (.inr (.inr q))⟩,λa o e n ho d=>by
   refine X1pppp (z.frm a o e n ho d) λo' e' c' r1 r2=>?_;refine X1pppp (u.frm a o' e' n (nD' e) (z.ndom e d)) λo'' e'' c'' r1' r2'=>?_;exact⟨o'',e'',c''.trans c',r1'.trans r1,r2'.trans r2⟩,z.dom,λa o e=>by
   refine X1p (z.there a o e) λo' e'=>?_;exact u.there a o' e'⟩
 have nDσ:¬Dom Y D:=λd=>h3.inv.σN D d (.inr rfl)
 rcases hfr with q|⟨ii,q⟩
 .have h4:F.St m Y s':=St.open_ (N:=F.N) h3 (λa q=>.inl q) hs.own hs.pN
  exact⟨Y,y,h4,_,.dict g3 (λd=>d.elim nDσ U) (hs.inv.not_sm T) nd3 (B.ext (Ext.refl _ _) λb q=>.inl (q.imp id .inl)),q⟩
 .have h4:F.St m (Y.set D (.dict l)) s':=St.take h3 hs.own hs.pN U bD (.dict g3 (hs.inv.not_sm T) nd3 B)
  exact⟨_,⟨y.ext,y.frm,λa d=>(A3 d).elim (λ(z:a=D)=>.inr (by rw[z];exact T)) (y.dom a),y.there⟩,h4,_,.loc D ii,q D nDσ⟩
end
end
section
variable {S:Sta}
section
variable {F:Fx S}{m:Vars}{V:Store}{s:af}{X:Value->af->Prop}{Q:AV->Store->Prop}
theorem Gv{h:Heap}{D:Addr->Prop}{cv:Nat->Value}{bs:List Bool}{vs:List Value}{i:Nat}{v:Value}(r:RepL cv h D (bs.map .bool) vs)(e:vs[i]?=some v):∃b,bs[i]?=some b/\v=.bool b:=by
 induction bs generalizing vs i with
 |nil=>rw[show vs=[] from r.inv]at e;exact(Am gG e).elim
 |cons b bs y =>
  obtain⟨u,z,rfl,a,r⟩:=r.inv
  cases i with|zero=>exact⟨b,rfl,(ae e).symm.trans a.inv⟩|succ i=>exact y (vs:=z) (i:=i) r e
theorem Ke(bs:List Bool):(bp bs.length).all (λi=>bs.getD i true)=bs.all id:=by
 have:(bp bs.length).map (λi=>bs.getD i true)=bs:=by
  apply ey;intro i
  by_cases h:i<bs.length
  .simp[h]
  .simp[h]
 have h:=List.all_map (f:=λi=>bs.getD i true) (p:=id) (l:=bp bs.length);rw[this]at h;exact h.symm
theorem Kd(bs:List Bool):(bp bs.length).any (λi=>bs.getD i true)=bs.any id:=by
 have:(bp bs.length).map (λi=>bs.getD i true)=bs:=by
  apply ey;intro i
  by_cases h:i<bs.length
  .simp[h]
  .simp[h]
 have h:=List.any_map (f:=λi=>bs.getD i true) (p:=id) (l:=bp bs.length);rw[this]at h;exact h.symm
theorem CT.all(hq:S.hx=aa){a:AV}{bs:List Bool}(ha:dl V a=some (bs.map .bool))(h:Q (.bool (bs.all id)) V):CT F m V (.builtin "all") [a] Q X:=by
 intro U s hs r;refine X1lp U r.one λv z=>?_;refine X3lpp v (z.lst hs.inv ha) λad vs n e u=>?_;have y:s.heap.IsList ad vs.toArray:=⟨_,e,rfl,n,rfl⟩;have d:ad≠s.heap.objs.size:=bO (bc e);have Y:vs.toArray.size=bs.length:=by have:=u.length;simpa using this
 refine call_all_walk (wpAny_pyIter_list y ⟨_,_,_,_,_,_,λi=>bs.getD i true,rfl,Walks.list (A:=F.A.in1) (F.room.quiet hq) s.heap.objs.size ad d vs.toArray,⟨⟨_,aD _ rfl,rfl,rfl⟩,⟨_,au _ e,rfl,n,rfl⟩⟩,?_,λh' tk k=>?_⟩)
 .intro i v s' Q' E' B hq
  refine X1pl v (Gv u (i:=i) (by simpa using B)) λb O=>?_
  refine cA ?_
  have:bs.getD i true=b:=by simp[List.getD,O]
  simp only[this]at hq;exact hq
 .refine Ao (hs.grow (h':=h') (λb o eb=>k b o (by simp;exact bO (bc eb)) (au _ eb)) tk) λT st=>?_
  rw[Y,Ke];exact⟨V,st.any,T,_,.bool _,h⟩
theorem CT.any(hq:S.hx=aa){a:AV}{bs:List Bool}(ha:dl V a=some (bs.map .bool))(h:Q (.bool (bs.any id)) V):CT F m V (.builtin "any") [a] Q X:=by
 intro U s hs r;refine X1lp U r.one λv z=>?_;refine X3lpp v (z.lst hs.inv ha) λad vs n e u=>?_;have y:s.heap.IsList ad vs.toArray:=⟨_,e,rfl,n,rfl⟩;have d:ad≠s.heap.objs.size:=bO (bc e);have Y:vs.toArray.size=bs.length:=by have:=u.length;simpa using this
 refine call_any_walk (wpAny_pyIter_list y ⟨_,_,_,_,_,_,λi=>bs.getD i true,rfl,Walks.list (A:=F.A.in1) (F.room.quiet hq) s.heap.objs.size ad d vs.toArray,⟨⟨_,aD _ rfl,rfl,rfl⟩,⟨_,au _ e,rfl,n,rfl⟩⟩,?_,λh' tk k=>?_⟩)
 .intro i v s' Q' E' B hq
  refine X1pl v (Gv u (i:=i) (by simpa using B)) λb O=>?_
  refine cA ?_
  have:bs.getD i true=b:=by simp[List.getD,O]
  simp only[this]at hq;exact hq
 .refine Ao (hs.grow (h':=h') (λb o eb=>k b o (by simp;exact bO (bc eb)) (au _ eb)) tk) λT st=>?_
  rw[Y,Kd];exact⟨V,st.any,T,_,.bool _,h⟩
theorem strsAre{h:Heap}{D:Addr->Prop}{cv:Nat->Value}{ys:List Str}{vs:List Value}(r:RepL cv h D (ys.map .str) vs):StrsAre vs ys:=by
 induction ys generalizing vs with
 |nil=>rw[show vs=[] from r.inv];exact .nil
 |cons y ys Y =>
  refine X2lpp vs r.inv λu z a d=>?_;refine X1l u a.inv λt=>?_;exact .cons _ _ (Y d)
theorem CT.join{x:Str}{a:AV}{O:List Str}(ha:dl V a=some (O.map .str))(T:(O.map (·.length)).sum+O.length * x.length<=1000000)(h:Q (.str (Txt.join x O)) V):CT F m V (.builtin "str.join") [.str x,a] Q X:=by
 intro U s hs r;refine X2lpp U r.two λv u B d=>?_;refine X1l v B.inv λZ=>?_;refine X3lpp u (d.lst hs.inv ha) λad vs n e z=>?_;exact join_list ⟨_,e,rfl,n,rfl⟩ (by simpa using strsAre z) (aw T (by decide)) λY k=>Bi _ hs (.str _ _) h
theorem Walks.heapDict{A:cD}(hh:A.handled=none)(I d:Addr)(O:d≠I)(es:Array aO)(ep:Nat) :
  Walks S.prog S.w A I [I,d] [I] es.size (λi v=>∃e,es[i]?=some e/\v=e.key) (λi h=>h.IsKeyIter I d i es.size ep/\DictE h d es ep) where
 sub:=λb z=>by simp at z;simp[z]
 frame:=λZ Z Z st B=>⟨(let ⟨o,ho,r⟩:=st.1;⟨o,B I (by simp) o ho,r⟩),B d (by simp) _ st.2⟩
 item:=λi s Q E hi st U=>by
  refine Ir st.1 st.2 (e:=es[i]) (by simp[hi]) λh' T Y=>?_
  exact U _ h' s.toks ⟨_,by simp[hi],rfl⟩ ⟨T,Y.extBut d _ O st.2⟩ λb o z e=>Y.extBut b o (λh=>z (by simp[h])) e
 done:=λs Q E st U=>LF hh st.1 st.2 (ay _) λh' y=>U h' s.toks λb o z e=>y b o (λh=>z (by simp[h])) e
 self:=λZ Z Z Z st U=>wpAny_pyIter_keyiter st.1 U
theorem srcDict{d:Addr}{es:Array aO}{ep:Nat}(z:(d == cL)=false):KdlSrc S.prog S.w "dict" d d es.size (λi v=>∃e,es[i]?=some e/\v=e.key) (λh=>DictE h d es ep) where
 type:=λZ O=>O.typeIs
 there:=λZ O=>⟨bc O,bc O⟩
 keep:=λZ Z O B=>B d (.inl rfl) _ O
 notList:=by decide
 notTuple:=by decide
 hint:=λZ Z Z Z O hq=>kdl_hint_dict O.typeIs hq
 iter:=λZ Z hh O=>⟨_,_,(λZ Z hq=>It z O hq),Walks.heapDict hh _ d (bO (bc O)) es ep,⟨⟨_,aD _ rfl,rfl,rfl⟩,au _ O⟩⟩
theorem repKeys{h:Heap}{D:Addr->Prop}{cv:Nat->Value}{l:List (Ag×AV)}{es:List aO}(r:RepD cv h D l es):RepL cv h D (l.map λp=>sp p.1) (es.map (·.key)):=by
 induction l generalizing es with|nil=>rw[show es=[] from r.inv];exact .nil|cons p l y=>refine X6lpppp es r.inv λt B T n v z e d a b=>?_;exact .cons (.tup (vs:=[_,_]) e d (.cons (.int _ _) (.cons (.int _ _) .nil))) (y b)
theorem CT.listDict(hq:S.hx=aa){a:AV}{l:List (Ag×AV)}(ha:dd V a=some l)(hz:l.length<=big)(h:Fresh V (.list (l.map λp=>sp p.1)) (.list (l.map λp=>sp p.1)) Q):CT F m V (.type "list") [a] Q X:=by
 intro U s hs r;refine X1lp U r.one λv O=>?_;refine X3lppp v (O.dctE hs ha) λad es n e T Y=>?_;refine kdl_call (srcDict (ep:=n) T) (F.room.quiet hq) e (by rw[aF,Y.length];exact Bk hz) λh' tk u c' k z hi=>?_
 refine Ao hi λh1 h2=>?_
 have:u=(es.map (·.key)).toArray:=by
  apply Array.ext
  .simp[h1]
  .intro i y d
   refine X1pp (h2 i u[i] (by simp[y])) λen he B=>?_
   simp only[List.getElem_toArray,gX];rw[B]
   have:es[i]?=some en:=by simpa using he
   rw[aA (by simpa using d)]at this
   rw[ae this]
 rw[this]at z;exact BD (tk:=tk) hs k (AB _) z (repKeys Y) h
end
end
section
variable {S:Sta}
structure Ei(S:Sta)(C:Addr):Prop where
 cv:S.cv B0=.ref C
 get:plainGet S.K C "texts"=true
 has:hasDictIn S.K C=true
 setattr:eE S.K (.ref C) "__setattr__"=some (some (.builtin "object.__setattr__"))
 over:plainOver S.K C=true
 make:makesIn S.K C=true
structure Field(S:Sta)(C:Addr)(nm:Str):Prop where
 find:eE S.K (.ref C) nm=some aa
 take:takerIn S.K C nm=some aa
noncomputable def Lo(fs:List (Str×AV))(nm:Str):Option AV:=(fs.find? λp=>p.1 == nm).map (·.2)
noncomputable def JG:List (Str×AV)->Str->AV->List (Str×AV)
 |[],nm,x=>[(nm,x)]
 |p::r,nm,x=>if p.1 == nm then (p.1,x)::r else p::JG r nm x
noncomputable def Ef(V:Store):AV->Option (List (Str×AV))
 |.inst fs=>some fs
 |.loc a _=>(V a).bind λo=>o.inst?.bind λdx=>(V dx).bind AObj.attrs?
 |_=>aa
theorem EX{V:Store}{a dx:Addr}{i:Nat}{fs:List (Str×AV)}(Y:V a=some (.inst dx))(z:V dx=some (.attrs fs)):Ef V (.loc a i)=some fs:=by
 show (V a).bind _=_;rw[Y];show (V dx).bind _=_;rw[z];rfl
theorem RepF.get{h:Heap}{D:Addr->Prop}{cv:Nat->Value}{nm:Str}{fs:List (Str×AV)}{es:List aO}(r:RepF cv h D fs es):(∀{x},Lo fs nm=some x->∃v,getL nm es=some (some v)/\Rep cv h D x v)/\(Lo fs nm=aa->getL nm es=some aa):=by
 induction fs generalizing es with
 |nil=>rw[show es=[] from r.inv];exact⟨λh=>(Am rfl h).elim,λZ=>rfl⟩
 |cons p l y =>
  obtain⟨n,x⟩:=p;obtain⟨u,t,v,es,rfl,r,rs⟩:=r.inv;have y:=y rs;unfold Lo getL at y ⊢
  by_cases q:(n == nm)=true
  .have U:(Value.str n t).isStr nm=true:=q
   simp only[dC,q,U,dD];exact⟨λh=>⟨v,rfl,ae h▸r⟩,λh=>(Am h rfl).elim⟩
  .have d:(n == nm)=false:=by simpa using q
   have U:(Value.str n t).isStr nm=false:=d;have B:DictEntry.refKey ⟨u,.str n t,v⟩=false:=rfl;simp only[dC,d,U,fR,B,Bool.false_or];exact y
theorem RepF.put{h:Heap}{D:Addr->Prop}{cv:Nat->Value}{nm:Str}{x:AV}{v:Value}{u:Int}{t:Tok}(O:Rep cv h D x v){fs:List (Str×AV)}{es:List aO}(r:RepF cv h D fs es):RepF cv h D (JG fs nm x) (putL nm u (.str nm t) v es):=by
 induction fs generalizing es with
 |nil=>rw[show es=[] from r.inv];exact .cons O .nil
 |cons p l B =>
  obtain⟨n,y⟩:=p;obtain⟨Y,d,z,es,rfl,r,rs⟩:=r.inv;unfold JG putL
  by_cases q:(n == nm)=true
  .have U:(Value.str n d).isStr nm=true:=q
   simp only[q,U,if_true];exact .cons O rs
  .have T:(n == nm)=false:=by simpa using q
   have U:(Value.str n d).isStr nm=false:=T;simp only[T,U,cg,if_false];exact .cons r (B rs)
theorem RepF.length{h:Heap}{D:Addr->Prop}{cv:Nat->Value}{fs:List (Str×AV)}{es:List aO}(r:RepF cv h D fs es):es.length=fs.length:=by
 induction fs generalizing es with
 |nil=>rw[show es=[] from r.inv];rfl
 |cons p l y=>obtain⟨a,b,c,d,rfl,_,r⟩:=r.inv;exact congrArg fS (y r)
section
variable {F:Fx S}{m:Vars}{V:Store}{s:af}{X:Value->af->Prop}{Q:AV->Store->Prop}{K:Fl->Vars->Store->Prop}{C:Addr}
theorem Rep.instAt{a:AV}{v:Value}{fs:List (Str×AV)}(B:Ei S C)(r:Rep S.cv s.heap (F.D V) a v)(hs:F.St m V s)(h:Ef V a=some fs) :
  ∃x dx es n,v=.ref x/\InstAt s.heap x (Dk (.ref C) dx) C (some (dictOf es n))/\RepF S.cv s.heap (F.D V) fs es:=by
 cases a with
 |inst fs' =>
  obtain⟨x,dx,es,n,rfl,e,nf,f,d,d2,r⟩:=r.inv;rw[B.cv]at e;exact⟨_,_,_,_,rfl,⟨e,rfl,rfl,f⟩,ae h▸r⟩
 |loc x ii =>
  refine X1pp (AD (show (V x).bind (λo=>o.inst?.bind λdx=>(V dx).bind AObj.attrs?)=some fs from h)) λo e O=>?_
  refine X1pp (AD O) λdx z Y=>?_;refine X1pp (AD Y) λU u y=>?_;obtain rfl:=AObj.inst?_out z;obtain rfl:=AObj.attrs?_out y;refine Ao ((hs.inv.rep x _ e).inv) λg Z=>?_;refine X2pp ((hs.inv.rep dx _ u).inv) λes n T q=>?_;rw[B.cv]at g;exact⟨x,dx,es,n,r.inv,⟨g,rfl,rfl,T⟩,q⟩
 |_=>exact(Am rfl h).elim
noncomputable def noCls:AV->Bool
 |.cls _=>false
 |_=>true
theorem Rep.handed{a:AV}{v:Value}{cv:Nat->Value}{h:Heap}{D:Addr->Prop}(r:Rep cv h D a v)(d:noCls a=true):handedIn v=true:=by
 induction r using Rep.casesOn<;>first|rfl|exact(aQ d).elim
theorem ET.attr{i n:Nat}{nm:Str}{a x:AV}{fs:List (Str×AV)}(B:Ei S C)(hf:Field S C nm)(O:ixS AT nm=some n)(hm:m i=some a)(ha:Ef V a=some fs)(U:Lo fs nm=some x)(hc:noCls x=true)(h:Q x V):ET F m V (.attr (.v i) n) Q X:=by
 intro pe T s hs;refine X4lpp pe T.inv λy q at_ p d hk=>?_
 have:at_=nm:=BN hk O
 clear O;subst this;refine Attribute_name (wpAny_Name (load_v d hm hs λv r=>?_) (A8 d.ok));refine X4lpp v (r.instAt B hs ha) λad dx es n' I z=>?_;refine X1pp (z.get.1 U) λu Y ru=>?_;exact get_value (S.X.keeps hs.inv.keep) I (plainGet_of B.get).1 (findObj_own B.has hf.find rfl Y) (ru.handed hc) (Bi _ hs ru h)
theorem setAttrT{ad dx:Addr}{nm:Str}{fs:List (Str×AV)}{x:AV}{B:Value}{Q':Unit->af->Prop}(Y:Ei S C)(hf:Field S C nm)(T:V ad=some (.inst dx))(hd:V dx=some (.attrs fs))(hz:fs.length<=100)(hs:F.St m V s)(rx:Rep S.cv s.heap (F.D V) x B)
  (h:∀s',F.St m (V.set dx (.attrs (JG fs nm x))) s'->Step F.P F.O V s (V.set dx (.attrs (JG fs nm x))) s'->Q' () s'):wpAny (model S.prog S.w) F.A (setAttr (.ref ad) nm B) Q' X s:=by
 refine X4ppp ((Rep.loc (cv:=S.cv) (h:=s.heap) (D:=F.D V) ad 0).instAt Y hs (fs:=fs) (EX T hd)) λx' z es n e1 I y=>?_;obtain rfl:=bG e1;have hdx:z=dx:=by
  refine Ao ((hs.inv.rep ad _ T).inv) λg Z=>?_;rw[Y.cv]at g;have:=I.at_;rw[g]at this;cases this;rfl
 clear T;subst hdx;have D:s.heap.get? z=some (dictOf es n):=I.dict;have da:Dom V z:=by unfold Dom;rw[hd];simp
 have KX:=S.X.keeps hs.inv.keep;refine set_plain KX I Y.setattr ?_;have I1:InstAt ({ s with toks:=s.toks+1 }:af).heap ad (Dk (.ref C) z) C (some (dictOf es n)):=I
 refine osa_open (s:={ s with toks:=s.toks+1 }) (K:=S.K) KX I1 Y.over hf.take λb=>?_
 refine X1pp (any_some Y.has) λcd hc hd'=>?_;refine ac (ah (ac (ac (wpAny_loadPart I.at_ (ac (Looks.here (s:={ s with toks:=s.toks+1 }) (looks_clsIn KX hc) ?_))))))
 rw[hd'];refine ah (a:=some z) (ac (ah (ac ?_)));unfold nsSet;refine ac (ac (wpAny_askSetting (ah (ac (wpAny_mkText (ac (wpAny_loadPart D ?_)))))));dsimp only;have c:(!es.toArray.any (·.key.isStr nm) && es.toArray.any (·.refKey))=false:=by
  have:es.toArray.any (·.refKey)=false:=by
   rw[<- Array.any_toList];have gen:∀{fs:List (Str×AV)}{es:List aO},RepF S.cv s.heap (F.D V) fs es->es.any (·.refKey)=false:=by
    intro fs
    induction fs with|nil=>intro es r;rw[show es=[] from r.inv];rfl|cons p fs U=>intro es r;refine X4lpp es r.inv λZ Z Z Z Z rs=>?_;rw[fR,U rs];rfl
   simpa using gen y
  rw[this,Bool.and_false]
 rw[aRefKeyMayBeTheName_at,c];refine wpAny_updatePart D ?_;have e0:∀(u:Int)(key:Value),e8 nm u key B (dictOf es n)=dictOf (putL nm u key B es) (putN nm es n):=λu key=>putName_dict nm u key B es n;have D':∀(u:Int)(key:Value),(s.heap.update z (e8 nm u key B)).get? z=some (dictOf (putL nm u key B es) (putN nm es n)):=λu key=>by
  have:=bM (e8 nm u key B) D (by rw[e0];rfl)
  rw[e0]at this;exact this
 have len:∀(u:Int)(key:Value)(l:List aO),(putL nm u key B l).length<=l.length+1:=by
  intro u key l
  induction l with|nil=>simp[putL]|cons p r U=>unfold putL;split<;>simp<;>exact lin [(putL nm u key B r).length,r.length] [] (.b V0 (.A V1 K1)) [.b V0 (.A V1 K1)] rfl U
 refine ac (wpAny_lookBehind (D' _ _) (pastItsLine_dict (by rw[aF];refine gI (Bk (aw (len _ _ es) ?_));rw[y.length];exact aw (Nat.succ_le_succ hz) (by decide))) ?_)
 have kp:∀(u:Int)(key:Value),dn z s.heap (s.heap.update z (e8 nm u key B)):=λu key=>(bK ..).extBut;have fin:∀(u:Int)(t:Tok)(tk:Nat),Q' () { s with heap:=s.heap.update z (e8 nm u (.str nm t) B),toks:=tk }:=by
  intro u t tk;have e1:Ext (F.D V) s.heap (s.heap.update z (e8 nm u (.str nm t) B)):=Ext.of_but λb o d e=>kp _ _ b o (λq=>d (.inl (q▸da))) e
  obtain⟨h1,st⟩:=hs.upd (h':=s.heap.update z (e8 nm u (.str nm t) B)) da (λc o ne e=>kp _ _ c o ne e) tk (o:=.attrs (JG fs nm x))
   (.attrs (D' _ _) ((y.put rx).ext e1 λb q=>.inl (q.imp (λq=>(A3 q).elim (λ(q:b=z)=>by rw[q];exact da) id) id)))
  exact h _ h1 st.any
 exact ah (fin _ _ _)
set_option tactic.hygienic true in
theorem ST.setattr{o e:E}{n:Nat}{nm:Str}(hC:Ei S C)(hf:Field S C nm)(O:ixS AT nm=some n)(hn:AK e=true)
  (h:ET F m V e (λx Aa=>ET F m Aa o (λa z=>∃ad d dx fs,a=.loc ad d/\z ad=some (.inst dx)/\z dx=some (.attrs fs)/\fs.length<=100/\K .next m (z.set dx (.attrs (JG fs nm x)))) X) X):ST F m V (.setattr o n e) K X:=by
 intro ps hc s hs;refine X5lppp ps hc.inv λpo a pe p q ho hk T=>?_
 have:a=nm:=BN hk O
 clear O;subst this;refine plainObj_wpAny_Assign_Attribute ((h _ T s hs).out ?_) (Ca T hn);intro vx Aa Ac Ai Ad u;obtain⟨x,B,AO⟩:=u;refine(AO _ ho Ac Ad).out ?_;intro va z Aj U Y u;obtain⟨a',ra,ad,d,dx,fs,rfl,h3,h4,hz,hK⟩:=u;obtain rfl:=ra.inv;refine setAttrT hC hf h3 h4 hz Y (B.st U Y) λs' h' y=>?_;exact⟨.next,m,_,(Ai.trans U).trans y,h',trivial,hK⟩
theorem ET.method{o:E}{n:Nat}{nm:Str}{f:Addr}{U:List E}(hC:Ei S C)(hn:ixS AT nm=some n)(hf:eE S.K (.ref C) nm=some (some (.ref f)))(ht:isFn S.K (.ref f)=true)(hk:keepIn S.K (.ref f)=true)
  (h:ET F m V o (λa Aa=>(∃fs,Ef Aa a=some fs/\Lo fs nm=aa)/\ArgsT F m Aa U (λavs Ab=>CT F m Ab (.ref f) (a::avs) Q X) X) X):ET F m V (.meth o n U) Q X:=by
 intro pe hc s hs;obtain⟨po,a,ap,z,p,rfl,T,d,hlen,ho,hk',ha⟩:=hc.inv
 have:a=nm:=BN hk' hn
 clear hn;subst this;have Y:=LX (nm:=a) (env:=F.env) (x:=eval po F.env) T;have hfew:=Iy (pos:=p) ha hlen;have O:(ap.endLine == p.line)=true:=by simpa using d
 show wpAny _ _ (eval (.Call (.Attribute po a ap) z [] p) F.env) _ _ _;rw[arm_eval_Call,Y];refine ac ((h _ ho s hs).out ?_);intro ov Aa Ac Ai Ad hR1;obtain⟨av,ra,⟨fs,hfs,hno⟩,y⟩:=hR1;refine ac (cX ?_);have u:methodCallForm (z.length+([]:List Keyword).length) (backTo p (fh z F.env)) (backToKw p (keywordEach [] F.env))=true:=hfew;have hpos:methodCallPos true po F.env ap p=pure p:=by unfold methodCallPos;simp[O]
 unfold methodCall;rw[u];refine X4ppp (ra.instAt hC Ad hfs) λx dx es n' Z1 I rf=>?_;subst Z1;refine ac (bI (method_fn (S.X.keeps Ad.inv.keep) I (plainGet_of hC.get).1 (plainGet_of hC.get).2 hf (beq_iff_eq.mp ht) (by show (lookIn a (dictOf es n')).map _=_;rw[lookIn_dict,rf.get.2 hno];rfl) ?_))
 refine ac (wpAny_of_eq hpos ?_)
 cases U with
 |nil =>
  obtain rfl:=ha.inv_nil;refine EN (Callable.own hk) Ad ?_;exact(y [.ref x] Ac Ad (.cons ra .nil)).later Ai
 |cons e0 r0 =>
  refine X2lppp z ha.inv λZ Z hn1 Z0 hr1=>?_;refine CX (.cons hn1 Z0 hr1) (Callable.own hk) y Ad ?_;intro B avs Ab Aj An Ah rl q;exact(q (.ref x::B) Aj Ah (.cons (ra.st An Ah) rl)).later (Ai.trans An)
end
end
section
variable {S:Sta}
section
variable {N:Addr->Prop}{V V':Store}{v:AV}
theorem View.same:View S N v V v V:=λZ Z hi r=>⟨hi,Step.refl _ _ _ _,r⟩
theorem Iu{a b:Addr}{o:AObj}(h:(V.del a) b=some o):b≠a/\V b=some o:=by
 unfold Store.del at h
 by_cases q:b=a
 .rw[if_pos q]at h;exact nS h
 .rw[if_neg q]at h;exact⟨q,h⟩
theorem GR{a:Addr}:¬Dom (V.del a) a:=λd=>d (if_pos rfl)
theorem View.dict{a:Addr}{B:Nat}{l:List (Ag×AV)}(h:V a=some (.dict l)):View S N (.loc a B) V (.dict l) (V.del a):=λs u hi r=>by
 refine Ao (hi.drop (V':=V.del a) λb o e=>(Iu e).2) λi st=>?_;refine⟨i,st,?_⟩;obtain rfl:=r.inv;refine X2pppp ((hi.rep a _ h).inv) λvs n e y z r=>?_;exact .dict e (λd=>d.elim GR (hi.σN a (by unfold Dom;rw[h];simp))) y z (r.step st (λZ h=>h.elim) (λZ h=>h.elim))
inductive Froze(V:Store):List Addr->AV->AV->Prop
 |same (v:AV):Froze V [] v v
 |list {a:Addr}{ii:Nat}{l:List AV}:V a=some (.list l)->Froze V [a] (.loc a ii) (.list l)
 |dict {a:Addr}{ii:Nat}{l:List (Ag×AV)}:V a=some (.dict l)->Froze V [a] (.loc a ii) (.dict l)
class inductive FrozeF(V:Store):List Addr->List (Str×AV)->List (Str×AV)->Prop
 |nil:FrozeF V [] [] []
 |cons {as bs:List Addr}{n:Str}{v v':AV}{l l':List (Str×AV)}:Froze V as v v'->FrozeF V bs l l'->FrozeF V (as++bs) ((n,v)::l) ((n,v')::l')
noncomputable def Store.dels(V:Store)(as:List Addr):Store:=λb=>if b∈as then aa else V b
theorem CN{as:List Addr}{b:Addr}{o:AObj}(h:(V.dels as) b=some o):b∉as/\V b=some o:=by
 unfold Store.dels at h
 by_cases q:b∈as
 .rw[if_pos q]at h;exact nS h
 .rw[if_neg q]at h;exact⟨q,h⟩
theorem A9{as:List Addr}{a:Addr}(h:a∈as):¬Dom (V.dels as) a:=λd=>d (if_pos h)
theorem Froze.rep{s:af}{as B:List Addr}{v O:AV}{u:Value}(f:Froze V as v O)(hi:Inv S N V s)(z:∀a∈as,a∈B)(st:Step noO noO V s (V.dels B) s)(r:Rep S.cv s.heap (DN N V) v u):Rep S.cv s.heap (DN N (V.dels B)) O u:=by
 induction f with
 |same=>exact r.step st (λZ h=>h.elim) (λZ h=>h.elim)
 | @list a U l h =>
  obtain rfl:=r.inv;refine X2pp ((hi.rep a _ h).inv) λvs n e r=>?_;exact .list e (λd=>d.elim (A9 (z a (.head _))) (hi.σN a (by unfold Dom;rw[h];simp))) (r.step st (λZ h=>h.elim) (λZ h=>h.elim))
 | @dict a U l h =>
  obtain rfl:=r.inv;refine X2pppp ((hi.rep a _ h).inv) λvs n e y T r=>?_;exact .dict e (λd=>d.elim (A9 (z a (.head _))) (hi.σN a (by unfold Dom;rw[h];simp))) y T (r.step st (λZ h=>h.elim) (λZ h=>h.elim))
theorem FrozeF.rep{s:af}{B:List Addr}(hi:Inv S N V s)(st:Step noO noO V s (V.dels B) s){as:List Addr}{fs fs':List (Str×AV)}{es:List aO}(f:FrozeF V as fs fs')(z:∀a∈as,a∈B)(r:RepF S.cv s.heap (DN N V) fs es):RepF S.cv s.heap (DN N (V.dels B)) fs' es:=by
 induction f generalizing es with
 |nil=>rw[show es=[] from r.inv];exact .nil
 |cons f d y =>
  obtain⟨_,_,_,_,rfl,r,rs⟩:=r.inv;exact .cons (f.rep hi (λa h=>z a (aZ.mpr (.inl h))) st r) (y (λa h=>z a (aZ.mpr (.inr h))) rs)
theorem View.inst{x dx:Addr}{z:Nat}{fs fs':List (Str×AV)}{as:List Addr}(h:V x=some (.inst dx))(h':V dx=some (.attrs fs))(f:FrozeF V as fs fs'):View S N (.loc x z) V (.inst fs') (V.dels (x::dx::as)):=λs u hi r=>by
 refine Ao (hi.drop (V':=V.dels (x::dx::as)) λb o e=>(CN e).2) λi st=>?_;refine⟨i,st,?_⟩
 ·.obtain rfl:=r.inv
   refine Ao ((hi.rep x _ h).inv) λe nf=>?_;refine X2pp ((hi.rep dx _ h').inv) λes n y r=>?_;exact .inst e nf y (λd=>d.elim (A9 (.head _)) (hi.σN x (by unfold Dom;rw[h];simp))) (λd=>d.elim (A9 (.tail _ (.head _))) (hi.σN dx (by unfold Dom;rw[h'];simp)))
    (FrozeF.rep hi st f (λa q=>.tail _ (.tail _ q)) r)
end
section
variable {F:Fx S}{m:Vars}{V:Store}{X:Value->af->Prop}{Q:AV->Store->Prop}{C:Addr}
theorem Room.in1{N:Addr->Prop}{k:Nat}{A:cD}(h:Room S N (k+1) A):Room S N k A.in1:=⟨h.hh,h.fr,by have:=h.dp;show A.depth+2 * k<900;exact lin [A.depth,k] [] (.c (.A V0 (.M 2 V1)) L9) [.c (.A V0 (.M 2 (.A V1 K1))) L9] rfl this,by have:=h.un;show A.units+1+20 * k<9000;exact lin [A.units,k] [] (.c (.A (.A V0 K1) (.M 20 V1)) B7) [.c (.A V0 (.M 20 (.A V1 K1))) B7] rfl this⟩
theorem CT.make{k:Nat}{fI:Addr}{avs:List AV}{Y:KX}(hC:Ei S C)(hi:eE S.K (.ref C) "__init__"=some (some (.ref fI)))(hf:isFn S.K (.ref fI)=true)(hk:k+1<=F.k)
  (h:∀x dx,¬Dom V x->¬Dom V dx->x≠dx->CallT S k (.ref fI) (.loc x 0::avs) ((V.set dx (.attrs [])).set x (.inst dx)) (λav Ab=>av=.none/\∀N,∃v' Ar,View S N (.loc x 0) Ab v' Ar/\Q v' Ar) Y):CT F m V (.ref C) avs Q (XF F m Y):=by
 intro U s hs rl;refine wpAny_call ?_;have e1:s=⟨s.heap,s.gens,s.drawn,s.toks,s.os⟩:=rfl;rw[e1];refine make_core (makes_of (S.X.keeps hs.inv.keep) hC.make) (looks_findIn (S.X.keeps hs.inv.keep) hi) (λd=>bind_fn (S.X.keeps hs.inv.keep) d (beq_iff_eq.mp hf)) (.inl rfl) ?_;generalize hA:F.A.under (.builtin "type.__call__" ⟨.ref C::U,[]⟩)=A';have fx:s.heap.get? s.heap.objs.size=aa:=AB _;have fy:s.heap.get? (s.heap.objs.size+1)=aa:=by
  cases q:s.heap.get? (s.heap.objs.size+1)with|none=>rfl|some o=>exact absurd (bc q) (cT.mpr (fU _))
 have ne:s.heap.objs.size+1≠s.heap.objs.size:=gV _;have g1:(s.heap.push gn).get? s.heap.objs.size=some (A5 #[] 0):=aD _ rfl;refine Ao (hs.inv.new (h':=s.heap.push gn) (Ax _ _) s.toks (a:=s.heap.objs.size) fx (o:=.attrs []) (.attrs (es:=[]) g1 .nil)) λi1 st1=>?_;have fz:(s.heap.push gn).get? (s.heap.objs.size+1)=aa:=by
  have:=AB (s.heap.push gn)
  rw[cK]at this;exact this
 have g2:((s.heap.push gn).push (instObj C s.heap.objs.size)).get? (s.heap.objs.size+1)=some (Dk (S.cv B0) s.heap.objs.size):=by
  rw[hC.cv]
  have:=aD (s.heap.push gn) (o:=instObj C s.heap.objs.size) rfl
  rw[cK]at this;exact this
 refine Ao (i1.new (h':=(s.heap.push gn).push (instObj C s.heap.objs.size)) (Ax _ _) s.toks (a:=s.heap.objs.size+1) fz (o:=.inst s.heap.objs.size) (.inst g2 ⟨C,hC.cv⟩)) λi2 st2=>?_;have st:=st1.trans st2;have eF:A'.frames=F.A.frames:=by rw[<- hA];rfl
 have eP:∀a,Frm A' a->F.P a:=λa ⟨l,u,y⟩=>⟨l,eF▸u,y⟩;have room:Room S F.N k A':=by
  rw[<- hA];have u:(F.A.under (.builtin "type.__call__" ⟨.ref C::U,[]⟩)).handled=F.A.handled:=rfl;have y:(F.A.under (.builtin "type.__call__" ⟨.ref C::U,[]⟩)).depth=F.A.depth+1:=rfl;have h3:(F.A.under (.builtin "type.__call__" ⟨.ref C::U,[]⟩)).units=F.A.units+1:=rfl;exact⟨u.trans F.room.hh,F.room.fr,by rw[y];have:=F.room.dp;exact lin [k,F.k,F.A.depth] [] (.c (.A (.A V2 K1) (.M 2 V0)) L9) [.B 2 (.A V0 K1) V1,.c (.A V2 (.M 2 V1)) L9] rfl hk this,by rw[h3];have:=F.room.un;exact lin [k,F.k,F.A.units] [] (.c (.A (.A V2 K1) (.M 20 V0)) B7) [.B 20 (.A V0 K1) V1,.c (.A V2 (.M 20 V1)) B7] rfl hk this⟩
 have hc:=h (s.heap.objs.size+1) s.heap.objs.size (hs.inv.not_dom fy) (hs.inv.not_dom fx) ne F.N A' (.ref (s.heap.objs.size+1)::U) _ room i2 (.cons (.loc _ _) (rl.step st (λZ h=>h.elim) (λZ h=>h.elim)));refine dG hc λr s' z=>?_
 cases r with
 |error e =>
  obtain⟨ea,c,V',Ak,u,y,h3,h4,h5⟩:=z;refine⟨ea,c,V',Ak,u,⟨?_,y.up,y.rest⟩,hs.to ((st.any (P:=F.P) (O:=noO)).trans (h3.wide eP)) h4 (λZ h=>h),h5⟩;refine X2ppp y.fly λbase l q1 q2 q3=>?_;exact⟨base,l,eF▸q1,q2,q3⟩
 |ok fl =>
  cases fl with
  |ret v =>
   obtain⟨av,Ab,st3,i3,r3,rfl,hq⟩:=z;obtain rfl:=r3.inv;refine X2pp (hq F.N) λv' Ar hv hQ=>?_;refine Bl (hv s' (.ref (s.heap.objs.size+1)) i3 (.loc _ _)) λi4 st4 r4=>?_;have T:Step F.P noO V s Ar s':=((st.any (P:=F.P) (O:=noO)).trans (st3.wide eP)).trans st4.any;refine⟨rfl,Ar,T.mono (λZ h=>h.elim),hs.to T i4 (λZ h=>h),v',r4,hQ⟩
  |_=>exact z.elim
end
theorem LocAt.imp{cv:Nat->Value}{h:Heap}{D:Addr->Prop}{T u:Str->Option Value}{cells:List (Str×Addr)}{k:Option cG}{x:Str}{av U:AV}(l:LocAt cv h D T u cells k x av)(r:∀{v},Rep cv h D av v->Rep cv h D U v):LocAt cv h D T u cells k x U:=by
 cases k with
 |none=>exact trivial
 |some k =>
  cases k with|«local»=>refine X1pp l λv a b=>?_;exact⟨v,a,r b⟩|cell=>refine X2ppp l λv c a b d=>?_;exact⟨v,c,a,b,r d⟩|free=>refine X2ppp l λv c a b d=>?_;exact⟨v,c,a,b,r d⟩|_=>exact trivial
theorem St.frz{S:Sta}{F:Fx S}{m m':Vars}{V:Store}{s:af}{a:Addr}{v:AV}(y:View S F.N (.loc a 0) V v (V.del a))(x:F.St m V s)(U:∀i av,m' i=some av->m i=some av\/(∃j,m i=some (.loc a j))/\av=v):F.St m' (V.del a) s/\Step F.P F.O V s (V.del a) s:=by
 refine Ao (x.drop (V':=V.del a) λb o e=>(Iu e).2) λY st=>?_;obtain⟨B,cm,n,cc,T,ap,cl,d⟩:=Y.loc;refine⟨⟨Y.inv,⟨B,cm,n,cc,T,ap,cl,λz i av hz hi=>?_⟩,Y.frm,Y.pN,Y.new,Y.own,Y.gb⟩,st.any⟩
 rcases U i av hi with q|⟨⟨j,q⟩,rfl⟩
 .exact d z i av hz q
 .exact(d z i _ hz q).imp λ{u} r=>by
   obtain rfl:=r.inv;exact(y s _ x.inv (.loc a 0)).2.2
set_option tactic.hygienic true in
theorem ST.thaw{S:Sta}{F:Fx S}{m:Vars}{V:Store}{st:Internal.S}{X:Value->af->Prop}{K:Fl->Vars->Store->Prop}(h:ST F m V st (λfl Aq Aa=>fl=.next/\∃As Ab,(∀s,F.St Aq Aa s->F.St As Ab s/\Step F.P F.O Aa s Ab s)/\K .next As Ab) X):ST F m V st K X :=
 λps d s hs=>aJ (h ps d s hs) (λf Ac ⟨fl,Aq,Aa,Ai,Ad,hf,e,As,Ab,t,q⟩=>⟨.next,As,Ab,Ai.trans (t Ac Ad).2,(t Ac Ad).1,by subst e;cases f<;>first|exact trivial|exact hf,q⟩) λZ Z e=>e
end
section
open PySem PyProof.Rows PySem.W PySem.Calls PySem.Spec
variable {prog:dz}{w:World}{S:Sta}
structure ExcK(K:Frag)(C:Addr):Prop where
 get:eE K (.ref C) "__getattribute__"=some (some (.builtin "BaseException.__getattribute__"))
 hook:eE K (.ref C) "__getattr__"=some aa
 dct:(clsIn K C).isSome=true
 fnd:eE K (.ref C) "__class__"=some (some (.builtin "object.__class__"))
 spc:specialIn K (.builtin "object.__class__") "__get__"=some (some (.builtin "getset_descriptor.__get__"))
 tak:takesIn K (.builtin "object.__class__")=some true
 mro:mroIn K C (.type "object")=some true
 sub:subIn K (.ref C) (.type "BaseException")=some true
theorem LV{α β:Type}{o:Option α}{x:α}{f:α->Option β}(h:o=some x):o.bind f=f x:=by rw[h];rfl
theorem Gc{K:Frag}{C:Addr}{name:Str}{a g:Value}(d:(clsIn K C).isSome=true)(ha:eE K (.ref C) name=some (some a))(Y:specialIn K a "__get__"=some (some g))(ht:takesIn K a=some true):findObj K C aa name=some (.bind g a):=by
 refine X1p (bF.mp d) λB d=>?_;unfold findObj;rw[d,Option.bind_some,ha,Option.bind_some];exact(LV Y).trans (LV ht)
theorem LB{K:Frag}{e D:Addr}{ox:Obj}{A:cD}{E:Value->af->Prop}{Q:Option Value->af->Prop}{s:af}(x:ExcK K D)(X:K.In s.heap)(I:InstAt s.heap e ox D aa)(h:Q (some (.ref D)) { s with toks:=s.toks+1 }) :
  wpAny (model prog w) A (getAttr? (.ref e) "__class__") Q E s:=by
 have T:findObj K D aa "__class__"=some (.bind (.builtin "getset_descriptor.__get__") (.builtin "object.__class__")):=Gc x.dct x.fnd x.spc x.tak;obtain⟨hh,g,d,t,os⟩:=s;have U:=I.type (M:=model prog w);have L1:=looks_findIn (M:=model prog w) X x.get;have y:=looks_findIn (M:=model prog w) X x.hook;have z:=looks_find (M:=model prog w) X I T;have Y:Looks (model prog w) hh (isInstance (.ref e) (.type "BaseException")) true:=U.andThen (looks_subIn X x.sub);unfold getAttr? getAttrBy? getAttrBy;refine ac (wpAny_mkText (ac (eM (bI (ac (U.at (ac (L1.at ?_))))))));show wpAny _ _ (if (onTheHeap (cE D) && eR "BaseException.__getattribute__" == eR "object.__getattribute__")=true then _ else getAttrByItsOwn _ _ _ _ _ _) _ _ _;have u:(eR "BaseException.__getattribute__" == eR "object.__getattribute__")=false:=by decide +kernel
 rw[if_neg (by rw[u,Bool.and_false];simp)]
 unfold getAttrByItsOwn hookBefore;rw[if_pos (show onTheHeap (cE D)=true from rfl)]
 refine ac (y.at ?_);unfold callGetattribute;refine ac (eM (bI ?_));rw[if_neg (show ¬(false && onTheHeap (eR "BaseException.__getattribute__"))=true by simp)]
 unfold boundAndCalled;rw[gv.ga.bind (.ref e)];refine ac (ah (wpAny_call (codeAny_call_builtin gv.ga.plain PySem.F.entry_bexc_ga ?_)));have B:builtinKind "BaseException.__getattribute__"=some .slot:=by decide +kernel
 have O:splitId "BaseException.__getattribute__"=some ("BaseException", "__getattribute__"):=by decide +kernel
 have ha:=PySem.F.args_bexc_ga (.ref e) (.str "__class__" t);show wpAny _ _ (checkBuiltinCall "BaseException.__getattribute__" ⟨[.ref e,.str "__class__" t],[]⟩) (λZ Ac=>wpAny _ _ (eT.«object.__getattribute__» ⟨[.ref e,.str "__class__" t],[]⟩) _ _ Ac) _ _;simp only[checkBuiltinCall,B,O];refine ac (Y.at ?_)
 repeat (first|assumption|wp_step)
 refine wpAny_loadPart_at I.at_ ?_;rw[I.cls];refine ah (ac (z.at ?_));show wpAny _ _ (holding [eR "object.__class__"] (call (.builtin "getset_descriptor.__get__") [.builtin "object.__class__",.ref e,.ref D]) >>= ret) _ _ _;refine ac (bI (wpAny_call (class_get (s:=⟨hh,g,d,t+1,os⟩) (ox:=ox) (od:=aa) X I x.mro ?_)));refine ah ?_;exact handed_on (show handedIn (cE D)=true from rfl) (ah h)
set_option tactic.hygienic true in
theorem kitx_exc{K:Frag}{e D:Addr}(x:ExcK K D):KitX K (.ref e) (.ref D) (λh=>∃ox,InstAt h e ox D aa) where
 ty:=λ_ _ _ ⟨_,I⟩=>I.type
 it:=λZ Z X Z=>by
  refine X1p (bF.mp x.dct) λT Y=>?_;unfold clsIn at Y
  split at Y
  .rename_i c' O u B U
   intro A' Q' E' s' k q;unfold isType loadHead;exact ac (wpAny_loadPart (k _ _ (X _ _ U)) (ah q))
  .exact nS Y
 ne:=λh tp dd d n sl X y=>by
  refine X1p (bF.mp x.dct) λT Y=>?_;refine cJ.mpr λq=>?_;have e:D=tp:=bG (beq_iff_eq.mp q);clear q;subst e;unfold clsIn at Y
  split at Y
  .rename_i c' O u B U
   have z:=(X _ _ U).symm.trans y
   cases z
  .exact nS Y
 ca:=λX ⟨_,I⟩ k=>LB x X I k
section
variable {F:Fx S}{m:Vars}{V:Store}{X:Value->af->Prop}{Q:AV->Store->Prop}
theorem CT.isx{c j:Nat}{C:Addr}{b:Bool}(B:S.cv c=.ref C)(x:ExcK S.K C)(hs:kitOne S.K (S.cv c) (S.cv j)=some b)(h:Q (.bool b) V):CT F m V (.builtin "isinstance") [.exc c,.cls j] Q X:=by
 intro U s Y r;refine X2lpp U r.two λv u O y=>?_
 .obtain rfl:=y.inv
  refine X2lppppp v O.inv λa o e z T d n=>?_;have I:InstAt s.heap a o C aa:=⟨e,z.trans B,by obtain⟨⟨vs,q⟩,_⟩:=T;unfold notCls;rw[q],by rw[T.2];trivial⟩
  rw[B]at hs;exact kia_one (kitx_exc x) (S.X.keeps Y.inv.keep) ⟨o,I⟩ hs (by intro q;cases q) λtk=>Bi tk Y (.bool b) h
end
end
section
variable {S:Sta}
structure Wd where
 U:Nat->Bool
 C:Addr
 M:Nat->Option Addr
noncomputable def bvL:List Value:=[.builtin "len",.builtin "isinstance",.type "int",.type "bool",.type "tuple",.type "list",.type "str",.type "dict",.type "range",.type "enumerate",.builtin "sorted",.builtin "sum",.builtin "abs",.builtin "min",.builtin "max",.builtin "all",.builtin "any"]
noncomputable def bv(i:Nat):Value:=(bvL[i]?).getD (.builtin "any")
noncomputable def isBT:Value->Bool
 |.builtin _=>true
 |.type _=>true
 |_=>false
noncomputable def xsub(c j:Nat):Bool:=j == 17 || j == 18 || j == c
structure Good(S:Sta)(W:Wd):Prop where
 glob:∀i,W.U i=true->Glob S i (S.cv i)
 bu:∀i,i<17->W.U i=true
 own:∀i,W.U i=true->17<=i->i≠28->Callable S (S.cv i)
 base:∀i,i<17->S.cv i=bv i
 six:∃t,S.cv 28=.int 6 t
 floor:Ei S W.C
 texts:Field S W.C "texts"
 cells:Field S W.C "own"
 exc:∀i,18<=i->i<=27->W.U i=true->∃x C bm nid ini,ixS GT x=some i/\S.cv i=.ref C/\OwnCls x C bm nid S.mg S.g/\ExcBaseFacts "ValueError" nid ini bm
 exk:∀c C,18<=c->c<=27->W.U c=true->S.cv c=.ref C->ExcK S.K C
 sub:∀c j,18<=c->c<=27->W.U c=true->17<=j->j<=27->W.U j=true->exmOne S.K (S.cv c) (S.cv j)=some (xsub c j)/\kitOne S.K (S.cv c) (S.cv j)=some (xsub c j)
 meth:∀n f,W.M n=some f->∃nm,ixS AT nm=some n/\nm ≠ "texts"/\nm ≠ "own"/\eE S.K (.ref W.C) nm=some (some (.ref f))/\isFn S.K (.ref f)=true/\keepIn S.K (.ref f)=true
section
variable {W:Wd}
theorem bv_able{i:Nat}(h:i<17):Callable S (bv i):=by
 have:∀i,i<17->isBT (bv i)=true:=by decide
 have:=this i h
 revert this
 cases bv i<;>first|(intro _;exact Callable.builtin _)|(intro _;exact Callable.type _)|(intro h;exact nF h)
theorem LO(G:Good S W){i:Nat}(T:W.U i=true)(y:i≠28):Callable S (S.cv i):=by
 by_cases h:i<17
 .rw[G.base i h]
  exact bv_able h
 .exact G.own i T (cT.mp h) y
noncomputable def tyCls:Nat->Option Ty
 |2=>some .int
 |3=>some .bool
 |4=>some .tup
 |5=>some .list
 |6=>some .str
 |7=>some .dict
 |_=>aa
theorem Hx{j:Nat}{u:Ty}(G:Good S W)(z:tyCls j=some u):S.cv j=.type u.name/\u≠.none:=by
 match j,z with
 |2,z|3,z|4,z|5,z|6,z|7,z=>rw[G.base _ (bf rfl)];obtain rfl:=ae z;exact⟨rfl,nofun⟩
noncomputable def fld:Nat->Str
 |11 => "texts"
 |_ => "own"
theorem Lm{n:Nat}(h:n=11\/n=12):ixS AT (fld n)=some n:=by
 rcases h with rfl|rfl<;>decide +kernel
theorem Good.field{S:Sta}(G:Good S W){n:Nat}(h:n=11\/n=12):Field S W.C (fld n):=by
 rcases h with rfl|rfl
 .exact G.texts
 .exact G.cells
theorem Ln{fs:List (Str×AV)}{nm:Str}(h:∀p∈fs,p.1 = "texts"\/p.1 = "own")(Y:nm ≠ "texts")(z:nm ≠ "own"):Lo fs nm=aa:=by
 unfold Lo;rw[Option.map_eq_none_iff,List.find?_eq_none];intro p d e;have e:=eq_of_beq e
 rcases h p d with q|q
 .exact Y (by rw[<- e,q])
 .exact z (by rw[<- e,q])
end
section
variable {F:Fx S}{m:Vars}{V:Store}{X:Value->af->Prop}{Q:AV->Store->Prop}
theorem KT.isBool{a b:Bool}{Q:Bool->Store->Prop}(h:Q (a == b) V):KT F m V .Is (.bool a) (.bool b) Q X:=by
 intro Y B s hs U T;obtain rfl:=U.inv;obtain rfl:=T.inv;exact is_bool ⟨V,Step.refl _ _ _ _,hs,_,rfl,h⟩
theorem KT.isNotBool{a b:Bool}{Q:Bool->Store->Prop}(h:Q (!(a == b)) V):KT F m V .IsNot (.bool a) (.bool b) Q X:=by
 intro Y B s hs U T;obtain rfl:=U.inv;obtain rfl:=T.inv;exact isnot_bool ⟨V,Step.refl _ _ _ _,hs,_,rfl,h⟩
theorem KT.notInStr{x y:Str}{Q:Bool->Store->Prop}(h:Q (!Txt.contains x y) V):KT F m V .NotIn (.str y) (.str x) Q X:=by
 intro U B s hs u T;refine X1l U u.inv λZ=>?_;refine X1l B T.inv λZ=>?_;exact SB.notContains ⟨V,Step.refl _ _ _ _,hs,_,rfl,h⟩
theorem CT.clear{ad:Addr}{u:Nat}{l:List AV}(Y:V ad=some (.list l))(hz:l.length<=big)(h:Q .none (V.set ad (.list []))):CT F m V (.builtin "list.clear") [.loc ad u] Q X:=by
 intro U s hs r;refine X1lp U r.one λv z=>?_;refine X3ppp (z.lst hs.inv (BS Y)) λB vs n Z0 e O=>?_;subst Z0;obtain rfl:=(bG z.inv).symm;refine call_meets PySem.F.slot_list_clear ⟨_,e,rfl⟩ PySem.F.entry_list_clear (PySem.F.args_list_clear_1 _) (PySem.AutoSeq1.list_clear_list_0 ad vs.toArray n (by rw[aF,O.length];exact Bk hz)) ⟨e,?_⟩
 have d:bq (λZ=>#[]) (AH vs.toArray n)=AH ([]:List Value).toArray (if ((#[]:Array Value).size == vs.toArray.size) then n else n+1):=by
  simp only[bq]
 have y:=bM (bq λZ=>#[]) e (by rw[d];rfl)
 rw[d]at y;refine Ao (Dw (s':=s) (vs:=[]) hs Y (bK ..).extBut y .nil) λT st=>?_;exact⟨_,st,T,_,.none,h⟩
theorem CH{i:Int}(h:i.natAbs<=2000000):InLong i :=
 ⟨dh (by decide:-(2 ^ 63:Int)<=-2000000) (Int.neg_le_of_neg_le (dh (Int.le_natAbs (a:=-i)) (by rw[Int.natAbs_neg];exact dY.mpr h))),eX (dh Int.le_natAbs (dY.mpr h)) (by decide:(2000000:Int)<2 ^ 63)⟩
theorem CT.sum2(hq:S.hx=aa){x y:Int}(hx:x.natAbs<=1000000)(hy:y.natAbs<=1000000)(h:Q (.int (x+y)) V):CT F m V (.builtin "sum") [.tup [.int x,.int y]] Q X:=by
 intro U s hs r;refine X1lp U r.one λv ra=>?_;refine X4lpp v (Rep.spot (k:=(x,y)) ra) λt B T n e d=>?_;have hT:s.heap.IsTuple t #[.int x B,.int y T]:=⟨_,e,rfl,n,rfl⟩;have u:t≠s.heap.objs.size:=bO (bc e);refine call_sum_walk (wpAny_pyIter_tuple hT ⟨_,_,_,_,_,_,λi=>if i=0 then x else y,rfl,Walks.tuple (A:=F.A.in1) (F.room.quiet hq) s.heap.objs.size t u #[.int x B,.int y T],⟨⟨_,aD _ rfl,rfl,rfl⟩,hT.push _⟩,?_,?_,?_,λh' tk t' k=>?_⟩)
 .intro b Y
  rw[cK];refine JF b Y ?_ λY=>?_
  .exact eH _
  ·
   rw[aR.mp Y];exact cM (bc e)
 .intro i v z
  match i,z with
  |0,z=>exact⟨B,(ae z).symm⟩
  |1,z=>exact⟨T,(ae z).symm⟩
  |i+2,z=>exact nS z
 .intro j O
  match j,O with
  |0,_=>exact⟨CH (aw hx (by decide)),by show InLong (0+x);rw[cV];exact CH (aw hx (by decide))⟩
  |1,_=>exact⟨CH (aw hy (by decide)),by show InLong (0+x+y);rw[cV];exact CH (aw (Int.natAbs_add_le x y) (Nat.add_le_add hx hy))⟩
  |j+2,O=>exact(ek j (d8 (d8 O))).elim
 .refine Ao (hs.grow (h':=h') (λb o eb=>k b o (by simp;exact bO (bc eb)) (au _ eb)) tk) λh1 st=>?_
  have e2:preSum (λi=>if i=0 then x else y) 2=x+y:=by show 0+x+y=x+y;rw[cV]
  exact⟨V,st.any,h1,_,e2▸.int _ _,h⟩
theorem CT.abs{a:Int}(h:Q (.int a.natAbs) V):CT F m V (.builtin "abs") [.int a] Q X:=by
 intro U s hs r;refine X1lp U r.one λv y=>?_;refine X1l v y.inv λZ=>?_;refine call_abs_int λu tk=>?_;refine Ao (hs.grow (h':=s.heap) (λb o e=>e) tk) λY st=>?_;have e:(if a<0 then -a else a)=(a.natAbs:Int):=by split<;>omega
 exact⟨V,st.any,Y,_,e▸.int _ _,h⟩
theorem Ji:Meth "clear" (Ty.name .list) "list.clear":=⟨dP,PySem.F.slot_list_clear,PySem.F.type_list_clear⟩
theorem CT.min2'(hq:S.hx=aa){a b:Int}(h:Q (.int (min a b)) V):CT F m V (.builtin "min") [.int a,.int b] Q X:=CT.min2 hq (by
 by_cases q:b<a
 .rw[if_pos q,<- Int.min_eq_right (Int.le_of_lt q)];exact h
 .rw[if_neg q,<- Int.min_eq_left (fH.mp q)];exact h)
theorem CT.max2'(hq:S.hx=aa){a b:Int}(h:Q (.int (max a b)) V):CT F m V (.builtin "max") [.int a,.int b] Q X:=CT.max2 hq (by
 by_cases q:b > a
 .rw[if_pos q,<- Int.max_eq_right (Int.le_of_lt q)];exact h
 .rw[if_neg q,<- Int.max_eq_left (fH.mp q)];exact h)
end
theorem ET.monoX{F:Fx S}{m:Vars}{V:Store}{X O:Value->af->Prop}{e:E}{Q:AV->Store->Prop}(h:ET F m V e Q X)(k:∀e s,X e s->O e s):ET F m V e Q O:=λpe d s hs=>aJ (h pe d s hs) (λZ Z q=>q) k
theorem TT.monoX{F:Fx S}{m:Vars}{V:Store}{X O:Value->af->Prop}{e:E}{Q:Bool->Store->Prop}(h:TT F m V e Q X)(k:∀e s,X e s->O e s):TT F m V e Q O:=λpe d s hs=>aJ (h pe d s hs) (λZ Z q=>q) k
theorem SrcT.monoX{F:Fx S}{m:Vars}{V:Store}{X O:Value->af->Prop}{p:Pat}{e:E}{G:List AV->(Store->Store->Prop)->Store->Prop}(h:SrcT F m V p e G X)(k:∀e s,X e s->O e s):SrcT F m V p e G O :=
 λpe t u d s hs=>aJ (h pe t u d s hs) (λZ Z y=>aJ y (λZ Z q=>q) k) k
theorem ET.mu{F:Fx S}{m:Vars}{V:Store}{X:Value->af->Prop}{e:E}{l:Nat}{Q:AV->Store->Prop}(h:ET F m V e Q X):ET F m V (.mu l e) Q X:=λpe d s hs=>h pe d s hs
theorem TT.mu{F:Fx S}{m:Vars}{V:Store}{X:Value->af->Prop}{e:E}{l:Nat}{Q:Bool->Store->Prop}(h:TT F m V e Q X):TT F m V (.mu l e) Q X:=λpe d s hs=>h pe d s hs
end
section
variable {S:Sta}
set_option genCtorIdx false in
inductive Slot where
 |no
 |at (a:Addr) (o:AObj)
noncomputable abbrev Slot.ctorIdx(x:Slot):Nat:=@Slot.casesOn (λ_=>Nat) x 0 (λ_ _=>1)
abbrev LS:=List Slot
noncomputable def Au:LS->Store
 |[],_=>aa
 |.no::r,b=>Au r b
 |.at a o::r,b=>if b=a then some o else Au r b
def okS:LS->Prop
 |[]=>True
 |.no::r=>okS r
 |.at a _::r=>Au r a=aa/\okS r
noncomputable def slot(V:LS)(i:Nat):Slot:=V.getD i .no
theorem HF{V:LS}{i:Nat}{a:Addr}{o:AObj}(h:slot V i=.at a o):.at a o∈V/\i<V.length:=by
 unfold slot at h
 by_cases q:i<V.length
 .rw[aB,aA q]at h
  exact⟨h▸gY q,q⟩
 .rw[aB,aX (cT.mp q)]at h;cases h
theorem FQ:∀{V:LS}{b:Addr}{o:AObj},Au V b=some o->.at b o∈V
 |[],_,_,h=>by exact nS h
 |.no::r,b,o,h=>.tail _ (FQ (V:=r) h)
 |.at c p::r,b,o,h=>by
  unfold Au at h
  by_cases e:b=c
  .rw[if_pos e]at h;obtain rfl:=ae h;rw[e];exact .head _
  .rw[if_neg e]at h;exact .tail _ (FQ h)
theorem EC:∀{V:LS}{b:Addr}{o:AObj},okS V->.at b o∈V->Au V b=some o
 |.no::r,b,o,k,h=>by
  rcases ax.mp h with q|q
  .cases q
  .exact EC (V:=r) k q
 |.at c p::r,b,o,k,h=>by
  unfold Au
  rcases ax.mp h with q|q
  .cases q;exact if_pos rfl
  .have z:=EC k.2 q
   by_cases e:b=c
   .rw[e,k.1]at z;exact nS z
   .rw[if_neg e];exact z
theorem Av{V:LS}{i:Nat}{a:Addr}{o:AObj}(k:okS V)(h:slot V i=.at a o):Au V a=some o:=EC k (HF h).1
def Fits(V:LS)(i:Nat)(s:Slot):Prop:=∀a o,s=.at a o->Au V a=aa\/∃p,slot V i=.at a p
theorem Dh:∀{V:LS}{i:Nat}{s:Slot},okS V->Fits V i s->okS (V.set i s)
 |[],_,_,_,_=>trivial
 |x::r,0,s,k,f=>by
  show okS (s::r);have O:okS r:=by cases x with|no=>exact k|«at» c p=>exact k.2
  cases s with
  |no=>exact O
  |«at» a o =>
   refine⟨?_,O⟩
   rcases f a o rfl with q|⟨p,q⟩
   .cases x with
    |no=>exact q
    |«at» c Y =>
     unfold Au at q
     by_cases e:a=c
     .rw[if_pos e]at q;exact nS' q
     .rw[if_neg e]at q;exact q
   .have:x=.at a p:=q
    clear f q;subst this;exact k.1
 |x::r,i+1,s,k,f=>by
  show okS (x::r.set i s);have d:okS r->Fits r i s:=λO a o e=>by
   rcases f a o e with q|⟨p,q⟩
   .cases x with
    |no=>exact .inl q
    |«at» c Y =>
     unfold Au at q
     by_cases e:a=c
     .rw[if_pos e]at q;exact nS' q
     .rw[if_neg e]at q;exact .inl q
   .exact .inr ⟨p,q⟩
  cases x with
  |no=>exact Dh (V:=r) k (d k)
  |«at» c p =>
   refine⟨?_,Dh k.2 (d k.2)⟩
   cases h:Au (r.set i s) c with
   |none=>rfl
   |some o =>
    rcases List.mem_or_eq_of_mem_set (FQ h)with q|q
    .have:=EC k.2 q;rw[k.1]at this;exact nS this
    .rcases f c o q.symm with z|⟨Y,z⟩
     .unfold Au at z;rw[if_pos rfl]at z;exact nS' z
     .have:slot r i=.at c Y:=z
      have:=Av k.2 this;rw[k.1]at this;exact nS this
theorem E8{V:LS}{i:Nat}{a:Addr}{o:AObj}(k:okS V)(f:Fits V i (.at a o))(b:Addr)(p:AObj)(h:Au (V.set i (.at a o)) b=some p):((Au V).set a o) b=some p:=by
 by_cases e:b=a
 .subst e
  rw[Store.set_self]
  by_cases q:i<V.length
  .have:=EC (Dh k f) (List.mem_set q (.at b o));rw[h]at this;exact this.symm
  .rw[List.set_eq_of_length_le (cT.mp q)]at h
   rcases f b o rfl with z|⟨Y,z⟩
   .rw[h]at z;exact nS' z
   .exact absurd (HF z).2 q
 .rw[Store.set_ne _ _ e]
  rcases List.mem_or_eq_of_mem_set (FQ h)with q|q
  .exact EC k q
  .cases q;exact absurd rfl e
theorem Da{V:LS}{a:Addr}(h:¬Dom (Au V) a):Au V a=aa:=cH λq=>h q
abbrev KV:=AV->LS->Prop
abbrev KB:=Bool->LS->Prop
abbrev M:=List (Option AV)
abbrev KS:=Fl->M->LS->Prop
abbrev XL:=Nat->LS->Prop
abbrev BZ:XL:=λZ Z=>False
noncomputable def vr(m:M):Vars:=λi=>m.getD i aa
def Sub(V:LS)(s:Store):Prop:=∀b o,Au V b=some o->s b=some o
theorem Sub.rfl{V:LS}:Sub V (Au V):=λZ Z h=>h
inductive Up{α:Type}(K:α->LS->Prop)(v:α)(s:Store):Prop
 |mk (V:LS)(e:Sub V s)(k:okS V)(h:K v V):Up K v s
inductive UpS(K:KS)(fl:Fl)(m':Vars)(s:Store):Prop
 |mk (m:M)(V:LS)(em:m'=vr m)(e:Sub V s)(k:okS V)(h:K fl m V):UpS K fl m' s
noncomputable def E9:M->Nat->AV->M
 |[],0,a=>[some a]
 |[],n+1,a=>aa::E9 [] n a
 |_::r,0,a=>some a::r
 |x::r,n+1,a=>x::E9 r n a
theorem HU{α:Type}{j n:Nat}{a b:α}:(if j=n then a else b)=if j+1=n+1 then a else b:=by
 by_cases e:j=n
 .rw[if_pos e,if_pos (congrArg fS e)]
 .rw[if_neg e,if_neg λz=>e (fe z)]
theorem Eo:∀(m:M)(i:Nat)(a:AV),vr (E9 m i a)=Vars.set (vr m) i a:=by
 intro m i a
 funext j
 unfold vr Vars.set
 induction m generalizing i j with
 |nil =>
  induction i generalizing j with
  |zero =>
   cases j with|zero=>exact(if_pos rfl).symm|succ j=>exact(if_neg (fL j)).symm
  |succ n y =>
   cases j with|zero=>exact(if_neg (fL n).symm).symm|succ j=>exact(y j).trans HU
 |cons x r y =>
  cases i with
  |zero =>
   cases j with|zero=>exact(if_pos rfl).symm|succ j=>exact(if_neg (fL j)).symm
  |succ n =>
   cases j with|zero=>exact(if_neg (fL n).symm).symm|succ j=>exact(y n j).trans HU
theorem E3(avs:List AV):vr (avs.map some)=Dv avs:=by
 funext i
 unfold vr Dv;simp only[aB,aT]
 cases avs[i]?<;>rfl
section
variable {F:Fx S}{m:Vars}{V:LS}{s:Store}{X:Value->af->Prop}
theorem W.less{α:Type}{t:Sem α}{P:α->Store->af->Prop}{u:af}(O:Sub V s)(hs:F.St m s u)(h:F.St m (Au V) u->W F m (Au V) u t P X):W F m s u t P X:=by
 refine Ao (hs.drop O) λY st=>?_;exact(h Y).later st.any
theorem ET.less{e:E}{Q:AV->Store->Prop}(O:Sub V s)(h:ET F m (Au V) e Q X):ET F m s e Q X:=λpe d Z ht=>W.less O ht λY=>h pe d _ Y
theorem TT.less{e:E}{Q:Bool->Store->Prop}(O:Sub V s)(h:TT F m (Au V) e Q X):TT F m s e Q X:=λpe d Z ht=>W.less O ht λY=>h pe d _ Y
theorem Rep.less'{u:af}{av:AV}{v:Value}(O:Sub V s)(hs:F.St m s u)(r:Rep S.cv u.heap (F.D s) av v):Rep S.cv u.heap (F.D (Au V)) av v:=by
 refine Ao (hs.drop O) λY st=>?_;exact r.st st.any Y
theorem RepL.less'{u:af}{av:List AV}{v:List Value}(O:Sub V s)(hs:F.St m s u)(r:RepL S.cv u.heap (F.D s) av v):RepL S.cv u.heap (F.D (Au V)) av v:=by
 refine Ao (hs.drop O) λY st=>?_;exact r.st st.any Y
theorem BT.less{op:gR}{a b:AV}{Q:AV->Store->Prop}(O:Sub V s)(h:BT F m (Au V) op a b Q X):BT F m s op a b Q X:=λU B u hs Y T=>W.less O hs λd=>h U B u d (Y.less' O hs) (T.less' O hs)
theorem KT.less{op:CmpOp}{a b:AV}{Q:Bool->Store->Prop}(O:Sub V s)(h:KT F m (Au V) op a b Q X):KT F m s op a b Q X:=λU B u hs Y T=>W.less O hs λd=>h U B u d (Y.less' O hs) (T.less' O hs)
theorem IT.less{a b:AV}{Q:AV->Store->Prop}(O:Sub V s)(h:IT F m (Au V) a b Q X):IT F m s a b Q X:=λU B u hs z d=>by
 refine Ao (hs.drop O) λh1 st=>?_;refine X2ppp (h U B u h1 (z.less' O hs) (d.less' O hs)) λT Y h2 h3 y=>?_;exact⟨T,Y,h2,h3,y.later st.any⟩
theorem CT.less{f:Value}{y:List AV}{Q:AV->Store->Prop}(O:Sub V s)(h:CT F m (Au V) f y Q X):CT F m s f y Q X:=λU u hs z=>W.less O hs λY=>h U u Y (z.less' O hs)
end
end
section
noncomputable def ans{α:Type}(lt:Nat->Nat->Bool):KasT α->α
 |.ret a=>a
 |.ask i j k=>ans lt (k (lt i j))
theorem C1{α β:Type}(lt:Nat->Nat->Bool)(f:α->KasT β)(t:KasT α):ans lt (t.bind f)=ans lt (f (ans lt t)):=by
 induction t with|ret a=>rfl|ask i j k y=>exact y (lt i j)
def Srt(lt:Nat->Nat->Bool)(p:Array Nat)(k:Nat):Prop:=∀i j,i<j->j<k->lt (p.getD j 0) (p.getD i 0)=false
structure Ord(lt:Nat->Nat->Bool):Prop where
 trans:∀a b c,lt b a=false->lt c b=false->lt c a=false
 up:∀a b c,lt c a=true->lt b a=false->lt c b=true
 irr:∀a,lt a a=false
 asym:∀a b,lt a b=true->¬lt b a=true
theorem Srt.step{lt:Nat->Nat->Bool}(o:Ord lt){p:Array Nat}{k:Nat}(h:Srt lt p k)(Y:0<k)(q:lt (p.getD k 0) (p.getD (k - 1) 0)=false):Srt lt p (k+1):=by
 intro i j B y
 by_cases e:j=k
 .clear Y y;subst e
  by_cases u:i=j - 1
  .rw[u];exact q
  .exact o.trans _ _ _ (h i (j - 1) ((bz u).elim (λz=>lin [i,j - 1] [] (.c V0 V1) [.c V0 V1] rfl z) (λz=>lin [i,j,j - 1] [] (.C 0 V0 V2) [.c V0 V1,.b V1 (.A K1 V2),.c V2 V0] rfl B (aq.mp (ay ((j) - (1)))) z)) (lin [j - 1,j] [] (.c V0 V1) [.d (.A V0 K1) V1] rfl (ak (lin [i,j] [] (.b K1 V1) [.c V0 V1] rfl B)))) q
 .exact h i j B ((bz e).elim (λz=>lin [j,k] [] (.c V0 V1) [.c V0 V1] rfl z) (λz=>lin [j,k] [] (.C 0 V0 V1) [.c V0 (.A V1 K1),.c V1 V0] rfl y z))
theorem Hr{lt:Nat->Nat->Bool}(o:Ord lt)(p:Array Nat)(f:Nat):∀n,0<n->Srt lt p n->n<=ans lt (dA p f n)/\ans lt (dA p f n)<=n+f/\Srt lt p (ans lt (dA p f n)):=by
 induction f with
 |zero=>intro n _ h;exact⟨ay _,ay _,h⟩
 |succ f y =>
  intro n O h;show n<=ans lt (if lt (p.getD n 0) (p.getD (n - 1) 0)=true then .ret n else dA p f (n+1))/\ans lt (if lt (p.getD n 0) (p.getD (n - 1) 0)=true then .ret n else dA p f (n+1))<=n+(f+1)/\Srt lt p (ans lt (if lt (p.getD n 0) (p.getD (n - 1) 0)=true then .ret n else dA p f (n+1)))
  by_cases c:lt (p.getD n 0) (p.getD (n - 1) 0)=true
  .rw[if_pos c];exact⟨ay _,dO _ _,h⟩
  .rw[if_neg c]
   refine Bl (y (n+1) (gl _) (h.step o O (cJ.mpr c))) λa b d=>?_;exact⟨lin [n,ans lt (dA p f (n+1))] [] (.b V0 V1) [.b (.A V0 K1) V1] rfl a,lin [ans lt (dA p f (n+1)),n,f] [] (.b V0 (.A V1 (.A V2 K1))) [.b V0 (.A (.A V1 K1) V2)] rfl b,d⟩
theorem place_at{lt:Nat->Nat->Bool}(o:Ord lt)(p:Array Nat)(k:Nat)(hs:Srt lt p k)(f:Nat):∀l r,l<=r->r<=k->r - l<=f->(∀i,i<l->lt (p.getD k 0) (p.getD i 0)=false)->(∀i,r<=i->i<k->lt (p.getD k 0) (p.getD i 0)=true) ->
  ans lt (g0 p k f l r)<=k/\(∀i,i<ans lt (g0 p k f l r)->lt (p.getD k 0) (p.getD i 0)=false)/\(∀i,ans lt (g0 p k f l r)<=i->i<k->lt (p.getD k 0) (p.getD i 0)=true):=by
 induction f with
 |zero =>
  intro l r u T Y U y;have e:l=r:=by exact ar (lin [l,r] [] (.b V0 V1) [.b V0 V1] rfl u) (lin [r - l,r,l] [] (.b V1 V2) [.b V0 K0,.b V1 (.A V2 V0)] rfl Y (aq.mp (ay ((r) - (l)))))
  clear u Y;subst e;exact⟨T,U,y⟩
 |succ f ih =>
  intro l r u T Y U y;unfold g0
  by_cases c:l >= r
  .rw[if_pos c]
   have e:l=r:=by exact ar (lin [l,r] [] (.b V0 V1) [.b V0 V1] rfl u) (lin [r,l] [] (.b V0 V1) [.b V0 V1] rfl c)
   clear u Y c;subst e;exact⟨T,U,y⟩
  .rw[if_neg c]
   show ans lt (if lt (p.getD k 0) (p.getD ((l+r) / 2) 0)=true then _ else _)<=k/\(∀i,i<ans lt (if lt (p.getD k 0) (p.getD ((l+r) / 2) 0)=true then _ else _)->_)/\(∀i,ans lt (if lt (p.getD k 0) (p.getD ((l+r) / 2) 0)=true then _ else _)<=i->_);have O:l<=(l+r) / 2/\(l+r) / 2<r:=by exact⟨lin [r,l,(l+r) / 2] [] (.B 2 V1 V2) [.i V0 V1,.c (.A V1 V0) (.M 2 (.A V2 K1))] rfl c (Nat.lt_mul_div_succ (l+r) (by decide:0<2)),lin [r,l,(l+r) / 2] [] (.C 2 V2 V0) [.i V0 V1,.b (.M 2 V2) (.A V1 V0)] rfl c (Nat.mul_div_le (l+r) 2)⟩
   generalize (l+r) / 2=m at O
   by_cases q:lt (p.getD k 0) (p.getD m 0)=true
   .rw[if_pos q]
    refine ih l m O.1 (lin [r,k,m] [] (.b V2 V1) [.b V0 V1,.c V2 V0] rfl T O.2) (lin [r - l,f,m,r,l,m - l] [] (.b V5 V1) [.b V0 (.A V1 K1),.c V2 V3,.b V3 (.A V4 V0),.d (.A V5 V4) V2] rfl Y O.2 (aq.mp (ay ((r) - (l)))) (ak (lin [l,m] [] (.b V0 V1) [.b V0 V1] rfl O.1))) U λi h4 h5=>?_
    by_cases e:i=m
    .rw[e];exact q
    .exact o.up _ _ _ q (hs m i ((bz e).elim (λz=>lin [m,i] [] (.C 0 V0 V1) [.b V0 V1,.c V1 V0] rfl h4 z) (λz=>lin [m,i] [] (.c V0 V1) [.c V0 V1] rfl z)) h5)
   .rw[if_neg q]
    have q:=cJ.mpr q;refine ih (m+1) r (lin [m,r] [] (.b (.A V0 K1) V1) [.c V0 V1] rfl O.2) T (lin [r - l,f,l,m,r,r - (m+1)] [] (.b V5 V1) [.b V0 (.A V1 K1),.b V2 V3,.b V4 (.A V2 V0),.d (.A V5 (.A V3 K1)) V4] rfl Y O.1 (aq.mp (ay ((r) - (l)))) (ak (lin [m,r] [] (.b (.A V0 K1) V1) [.c V0 V1] rfl O.2))) (λi h4=>?_) y
    by_cases e:i=m
    .rw[e];exact q
    .exact o.trans _ _ _ (hs i m ((bz e).elim (λz=>lin [i,m] [] (.c V0 V1) [.c V0 V1] rfl z) (λz=>lin [i,m] [] (.C 0 V0 V1) [.c V0 (.A V1 K1),.c V1 V0] rfl h4 z)) (lin [r,k,m] [] (.c V2 V1) [.b V0 V1,.c V2 V0] rfl T O.2)) q
theorem Ec{p:Array Nat}{k l:Nat}(B:k<p.size)(U:l<=k)(i:Nat):(bubble p k (k - l)).getD i 0=if i=l then p.getD k 0 else if l<i/\i<=k then p.getD (i - 1) 0 else p.getD i 0:=by
 have h:=getElem?_bubble B (k - l) (fM _ _) i;rw[show k - (k - l)=l by exact ar (lin [k,l,k - l,k - (k - l)] [] (.b V3 V1) [.b V0 (.A V1 V2),.d (.A V3 V2) V0] rfl (aq.mp (ay ((k) - (l)))) (ak (lin [k - l,k] [] (.b V0 V1) [.b V0 V1] rfl (fM k l)))) (lin [k,k - l,k - (k - l),l] [] (.b V3 V2) [.b V0 (.A V1 V2),.d (.A V1 V3) V0] rfl (aq.mp (ay ((k) - (k - l)))) (ak (lin [l,k] [] (.b V0 V1) [.b V0 V1] rfl U)))]at h
 rw[bj,h,bj,bj,bj]
 split
 .rfl
 .split<;>rfl
theorem bin_srt{lt:Nat->Nat->Bool}(o:Ord lt)(f:Nat):∀(p:Array Nat)(k:Nat),k+f<=p.size->Srt lt p k->Srt lt (ans lt (kas_bin f p k)) (k+f)/\(ans lt (kas_bin f p k)).Perm p:=by
 induction f with
 |zero=>intro p k _ h;exact⟨h,.refl _⟩
 |succ f ih =>
  intro p k hk h;unfold kas_bin;rw[C1];refine Bl (place_at o p k h k 0 k (di _) (ay _) (fM _ _) (λi hi=>absurd hi (ek _)) (λi hi T=>absurd T (cT.mpr hi))) λY h2 U=>?_;generalize ans lt (g0 p k k 0 k)=l at Y h2 U;have hs:k<p.size:=by exact lin [k,f,p.size] [] (.c V0 V2) [.b (.A V0 (.A V1 K1)) V2] rfl hk
  have key:Srt lt (bubble p k (k - l)) (k+1):=by
   intro i j B y;rw[Ec hs Y,Ec hs Y]
   by_cases a:i=l
   .clear Y h2;subst a
    rw[if_pos rfl,if_neg (by exact λO=>lin [i,j] [] .no [.c V0 V1,.d V1 V0] rfl B O),if_pos (by exact⟨lin [i,j] [] (.c V0 V1) [.c V0 V1] rfl B,lin [j,k] [] (.b V0 V1) [.c V0 (.A V1 K1)] rfl y⟩)]
    have:=U (j - 1) (lin [i,j,j - 1] [] (.b V0 V2) [.c V0 V1,.b V1 (.A K1 V2)] rfl B (aq.mp (ay ((j) - (1))))) (lin [j,k,j - 1] [] (.c V2 V1) [.c V0 (.A V1 K1),.d (.A V2 K1) V0] rfl y (ak (lin [i,j] [] (.b K1 V1) [.c V0 V1] rfl B)))
    exact cJ.mpr λq=>by have z:=o.up _ _ _ this (o.irr _);exact o.asym _ _ z q
   .rw[if_neg a]
    by_cases b:j=l
    .clear Y U a;subst b
     rw[if_pos rfl,if_neg (λO=>lin [i,j] [] .no [.c V0 V1,.c V1 V0] rfl B O.1)];exact h2 i (lin [i,j] [] (.c V0 V1) [.c V0 V1] rfl B)
    .rw[if_neg b]
     by_cases c:l<i
     .rw[if_pos (⟨lin [i,j,l] [] (.c V2 V1) [.c V0 V1,.c V2 V0] rfl B c,lin [j,k] [] (.b V0 V1) [.c V0 (.A V1 K1)] rfl y⟩),if_pos (⟨lin [l,i] [] (.c V0 V1) [.c V0 V1] rfl c,lin [i,j,k] [] (.b V0 V2) [.c V0 V1,.c V1 (.A V2 K1)] rfl B y⟩)]
      exact h (i - 1) (j - 1) (lin [i,j,j - 1,i - 1] [] (.c V3 V2) [.c V0 V1,.b V1 (.A K1 V2),.d (.A V3 K1) V0] rfl B (aq.mp (ay ((j) - (1)))) (ak (lin [l,i] [] (.b K1 V1) [.c V0 V1] rfl c))) (lin [j,k,j - 1] [] (.c V2 V1) [.c V0 (.A V1 K1),.d (.A V2 K1) V0] rfl y (ak (lin [i,j] [] (.b K1 V1) [.c V0 V1] rfl B)))
     .have ci:¬(l<i/\i<=k):=by exact λO=>lin [l,i] [] .no [.j V0 V1,.c V0 V1] rfl c O.1
      rw[if_neg ci]
      by_cases d:l<j
      .have cj:l<j/\j<=k:=by exact⟨lin [l,j] [] (.c V0 V1) [.c V0 V1] rfl d,lin [j,k] [] (.b V0 V1) [.c V0 (.A V1 K1)] rfl y⟩
       rw[if_pos cj];exact h i (j - 1) ((bz a).elim (λO=>lin [l,j,j - 1,i] [] (.c V3 V2) [.c V0 V1,.b V1 (.A K1 V2),.c V3 V0] rfl d (aq.mp (ay ((j) - (1)))) O) (λO=>lin [l,i,j - 1] [] (.C 0 V1 V2) [.j V0 V1,.c V0 V1] rfl c O)) (lin [j,k,j - 1] [] (.c V2 V1) [.c V0 (.A V1 K1),.d (.A V2 K1) V0] rfl y (ak (lin [i,j] [] (.b K1 V1) [.c V0 V1] rfl B)))
      .have cj:¬(l<j/\j<=k):=by exact λO=>lin [l,j] [] .no [.j V0 V1,.c V0 V1] rfl d O.1
       rw[if_neg cj];exact h i j B ((bz a).elim (λO=>(bz b).elim (λu=>lin [l,k,j] [] (.c V2 V1) [.b V0 V1,.c V2 V0] rfl Y u) (λu=>lin [l,j,k] [] (.C 0 V1 V2) [.j V0 V1,.c V0 V1] rfl d u)) (λO=>lin [i,j,l,k] [] (.C 0 V1 V3) [.c V0 V1,.j V2 V1,.c V2 V0] rfl B d O))
  refine Ao (ih (bubble p k (k - l)) (k+1) (by rw[bubble_size];exact lin [k,f,p.size] [] (.b (.A (.A V0 K1) V1) V2) [.b (.A V0 (.A V1 K1)) V2] rfl hk) key) λa b=>?_
  exact⟨by rw[show k+(f+1)=k+1+f by exact ar (lin [k,f] [] (.b (.A V0 (.A V1 K1)) (.A (.A V0 K1) V1)) [] rfl) (lin [k,f] [] (.b (.A (.A V0 K1) V1) (.A V0 (.A V1 K1))) [] rfl)];exact a,b.trans (bubble_perm _ _ _)⟩
end
section
theorem HI{p:Array Nat}{j:Nat}(y:j<=p.size){k:Nat}(B:k<j):(kas_rev p 0 j).getD k 0=p.getD (j - 1 - k) 0:=by
 have h:=getElem?_mirror_all (xs:=p) (i:=0) y k;rw[if_pos ⟨di _,B⟩,Nat.zero_add]at h;unfold kas_rev;rw[bj,h,bj]
def Fal(lt:Nat->Nat->Bool)(p:Array Nat)(k:Nat):Prop:=∀i j,i<j->j<k->lt (p.getD i 0) (p.getD j 0)=false
theorem Fal.rev{lt:Nat->Nat->Bool}{p:Array Nat}{k:Nat}(h:Fal lt p k)(z:k<=p.size):Srt lt (kas_rev p 0 k) k:=by
 intro i j B y;rw[HI z y,HI z (Nat.lt_trans B y)];exact h (k - 1 - j) (k - 1 - i) (lin [i,j,k - 1,k - 1 - i,k - 1 - j] [] (.c V4 V3) [.c V0 V1,.b V2 (.A V0 V3),.d (.A V4 V1) V2] rfl B (aq.mp (ay ((k - 1) - (i)))) (ak (lin [j,k,k - 1] [] (.b V0 V2) [.c V0 V1,.b V1 (.A K1 V2)] rfl y (aq.mp (ay ((k) - (1))))))) (lin [k - 1 - i,k - 1,k] [] (.c V0 V2) [.b V0 V1,.d (.A V1 K1) V2] rfl (fM (k - 1) i) (ak (lin [j,k] [] (.b K1 V1) [.c V0 V1] rfl y)))
theorem Fal.step{lt:Nat->Nat->Bool}(o:Ord lt){p:Array Nat}{k:Nat}(h:Fal lt p k)(T:0<k)(q:lt (p.getD k 0) (p.getD (k - 1) 0)=true):Fal lt p (k+1):=by
 have U:lt (p.getD (k - 1) 0) (p.getD k 0)=false:=cJ.mpr (o.asym _ _ q);intro i j B y
 by_cases e:j=k
 .clear T q y;subst e
  by_cases u:i=j - 1
  .rw[u];exact U
  .exact o.trans _ _ _ U (h i (j - 1) ((bz u).elim (λz=>lin [i,j - 1] [] (.c V0 V1) [.c V0 V1] rfl z) (λz=>lin [i,j,j - 1] [] (.C 0 V0 V2) [.c V0 V1,.b V1 (.A K1 V2),.c V2 V0] rfl B (aq.mp (ay ((j) - (1)))) z)) (lin [j - 1,j] [] (.c V0 V1) [.d (.A V0 K1) V1] rfl (ak (lin [i,j] [] (.b K1 V1) [.c V0 V1] rfl B))))
 .exact h i j B ((bz e).elim (λz=>lin [j,k] [] (.c V0 V1) [.c V0 V1] rfl z) (λz=>lin [j,k] [] (.C 0 V0 V1) [.c V0 (.A V1 K1),.c V1 V0] rfl y z))
def Dif(lt:Nat->Nat->Bool)(p:Array Nat):Prop:=∀i j,i≠j->i<p.size->j<p.size->lt (p.getD i 0) (p.getD j 0)=true\/lt (p.getD j 0) (p.getD i 0)=true
theorem desc_fal{lt:Nat->Nat->Bool}(o:Ord lt){p:Array Nat}(d:Dif lt p)(f:Nat):∀n,0<n->n+f<=p.size->Fal lt p n->∃Y,ans lt (kas_desc f p n 0)=(p,Y,0)/\n<=Y/\Y<=n+f/\Fal lt p Y:=by
 induction f with
 |zero=>intro n _ _ h;exact⟨n,rfl,ay _,ay _,h⟩
 |succ f y =>
  intro n O hz h
  by_cases c:lt (p.getD n 0) (p.getD (n - 1) 0)=true
  .refine X1pppp (y (n+1) (gl _) (lin [n,f,p.size] [] (.b (.A (.A V0 K1) V1) V2) [.b (.A V0 (.A V1 K1)) V2] rfl hz) (h.step o O c)) λY e a b q=>?_
   refine⟨Y,?_,lin [n,Y] [] (.b V0 V1) [.b (.A V0 K1) V1] rfl a,lin [Y,n,f] [] (.b V0 (.A V1 (.A V2 K1))) [.b V0 (.A (.A V1 K1) V2)] rfl b,q⟩;show ans lt (if lt (p.getD n 0) (p.getD (n - 1) 0)=true then (if 0 > 0 then _ else kas_desc f p (n+1) 0) else _)=_;rw[if_pos c,if_neg (by decide)]
   exact e
  .refine⟨n,?_,ay _,dO _ _,h⟩
   show ans lt (if lt (p.getD n 0) (p.getD (n - 1) 0)=true then _ else KasT.ask (p.getD (n - 1) 0) (p.getD n 0) λd=>if d=true then .ret (p,n,0) else _)=_;rw[if_neg c];show ans lt (if lt (p.getD (n - 1) 0) (p.getD n 0)=true then .ret (p,n,0) else _)=_;rw[if_pos ((d (n - 1) n (λz=>lin [n - 1,n] [] .no [.D (-1) V0 V1,.d (.A V0 K1) V1] rfl z (ak (lin [n] [] (.b K1 V0) [.c K0 V0] rfl O))) (lin [n,f,p.size,n - 1] [] (.c V3 V2) [.b (.A V0 (.A V1 K1)) V2,.b V3 V0] rfl hz (fM n (1))) (lin [n,f,p.size] [] (.c V0 V2) [.b (.A V0 (.A V1 K1)) V2] rfl hz)).resolve_right c)]
   rfl
theorem LJ{lt:Nat->Nat->Bool}(o:Ord lt){p:Array Nat}(d:Dif lt p)(U:2<=p.size):1<=(ans lt (fO p.size p)).1/\(ans lt (fO p.size p)).1<=p.size/\Srt lt (ans lt (fO p.size p)).2 (ans lt (fO p.size p)).1/\(ans lt (fO p.size p)).2.Perm p:=by
 unfold fO;rw[C1];obtain⟨a,b,c⟩:=Hr o p (p.size - 1) 1 Nat.one_pos (λi j u U=>by omega)
 by_cases B:ans lt (dA p (p.size - 1) 1)=1
 .rw[B]
  have q:lt (p.getD 1 0) (p.getD 0 0)=true:=by
   refine cH λq=>?_
   have:ans lt (dA p (p.size - 1) 1)=ans lt (dA p (p.size - 2) 2):=by
    rw[show p.size - 1=(p.size - 2)+1 by exact ar (lin [p.size,p.size - 2,p.size - 1] [] (.b V2 (.A V1 K1)) [.b V0 (.A K2 V1),.d (.A V2 K1) V0] rfl (aq.mp (ay ((p.size) - (2)))) (ak (lin [p.size] [] (.b K1 V0) [.b K2 V0] rfl U))) (lin [p.size,p.size - 1,p.size - 2] [] (.b (.A V2 K1) V1) [.b V0 (.A K1 V1),.d (.A V2 K2) V0] rfl (aq.mp (ay ((p.size) - (1)))) (ak (lin [p.size] [] (.b K2 V0) [.b K2 V0] rfl U)))]
    show ans lt (if lt (p.getD 1 0) (p.getD 0 0)=true then _ else _)=_;rw[if_neg q]
   have z:=(Hr o p (p.size - 2) 2 (lin [] [] (.c K0 K2) [] rfl) (λi j u U=>by
    have e:i=0/\j=1:=by exact⟨ar (lin [i,j] [] (.b V0 K0) [.c V0 V1,.c V1 K2] rfl u U) (lin [i] [] (.b K0 V0) [] rfl),ar (lin [j] [] (.b V0 K1) [.c V0 K2] rfl U) (lin [i,j] [] (.b K1 V1) [.c V0 V1] rfl u)⟩
    rw[e.1,e.2];exact cJ.mpr q)).1
   exact lin [ans lt (dA p (p.size - 1) 1),ans lt (dA p (p.size - 2) 2)] [] .no [.d V0 K1,.D (-1) V0 V1,.b K2 V1] rfl B this z
  rw[if_neg (by simp;exact λO=>lin [p.size] [] .no [.b K2 V0,.D (-1) K1 V0] rfl U O),if_neg (by decide)]
  unfold kas_descPart;rw[C1];obtain⟨Y,e,h3,h4,fl⟩:=desc_fal o d (p.size - 2) 2 (lin [] [] (.c K0 K2) [] rfl) (lin [p.size - 2,p.size] [] (.b (.A K2 V0) V1) [.d (.A V0 K2) V1] rfl (ak (lin [p.size] [] (.b K2 V0) [.b K2 V0] rfl U))) (λi j u U=>by
   have e:i=0/\j=1:=by exact⟨ar (lin [i,j] [] (.b V0 K0) [.c V0 V1,.c V1 K2] rfl u U) (lin [i] [] (.b K0 V0) [] rfl),ar (lin [j] [] (.b V0 K1) [.c V0 K2] rfl U) (lin [i,j] [] (.b K1 V1) [.c V0 V1] rfl u)⟩
   rw[e.1,e.2];exact cJ.mpr (o.asym _ _ q))
  rw[e];dsimp only;rw[if_neg (by decide)]
  unfold kas_tail3;rw[C1];refine Bl (Hr o (kas_rev p 0 Y) (p.size - Y) Y (lin [Y] [] (.c K0 V0) [.b K2 V0] rfl h3) (fl.rev (lin [Y,p.size - 2,p.size] [] (.b V0 V2) [.b V0 (.A K2 V1),.d (.A V1 K2) V2] rfl h4 (ak (lin [p.size] [] (.b K2 V0) [.b K2 V0] rfl U))))) λx y z=>?_;exact⟨by show 1<=ans lt (dA _ _ _);exact lin [Y,ans lt (dA (kas_rev p 0 Y) (p.size - Y) Y)] [] (.b K1 V1) [.b K2 V0,.b V0 V1] rfl h3 x,by show ans lt (dA _ _ _)<=_;exact lin [ans lt (dA (kas_rev p 0 Y) (p.size - Y) Y),Y,p.size - Y,p.size] [] (.b V0 V3) [.b V0 (.A V1 V2),.d (.A V2 V1) V3] rfl y (ak (lin [Y,p.size - 2,p.size] [] (.b V0 V2) [.b V0 (.A K2 V1),.d (.A V1 K2) V2] rfl h4 (ak (lin [p.size] [] (.b K2 V0) [.b K2 V0] rfl U)))),z,fV _ _ _ _⟩
 .generalize hn:ans lt (dA p (p.size - 1) 1)=n at a b c B
  by_cases e2:n=p.size
  .rw[if_pos (by rw[e2];simp)]
   exact⟨a,by show n<=_;exact lin [n,p.size] [] (.b V0 V1) [.d V0 V1] rfl e2,c,.refl _⟩
  .rw[if_neg (by simp;exact e2),if_pos (by exact(bz B).elim (λO=>lin [n] [] (.C 0 K1 V0) [.b K1 V0,.c V0 K1] rfl a O) (λO=>lin [n] [] (.c K1 V0) [.c K1 V0] rfl O))]
   show 1<=(ans lt (if lt (p.getD 0 0) (p.getD (n - 1) 0)=true then .ret (n,p) else _)).1/\(ans lt (if lt (p.getD 0 0) (p.getD (n - 1) 0)=true then .ret (n,p) else _)).1<=_/\Srt lt (ans lt (if lt (p.getD 0 0) (p.getD (n - 1) 0)=true then .ret (n,p) else _)).2 (ans lt (if lt (p.getD 0 0) (p.getD (n - 1) 0)=true then .ret (n,p) else _)).1/\(ans lt (if lt (p.getD 0 0) (p.getD (n - 1) 0)=true then .ret (n,p) else _)).2.Perm p;have hc:lt (p.getD 0 0) (p.getD (n - 1) 0)=true:=(d 0 (n - 1) (λO=>(bz B).elim (λT=>lin [n] [] .no [.b K1 V0,.c V0 K1] rfl a T) (λT=>lin [n - 1,n] [] .no [.D (-1) K0 V0,.b V1 (.A K1 V0),.c K1 V1] rfl O (aq.mp (ay ((n) - (1)))) T)) (lin [p.size] [] (.c K0 V0) [.b K2 V0] rfl U) (lin [n,p.size - 1,p.size,n - 1] [] (.c V3 V2) [.b V0 (.A K1 V1),.d (.A V1 K1) V2,.d (.A V3 K1) V0] rfl b (ak (lin [p.size] [] (.b K1 V0) [.b K2 V0] rfl U)) (ak (lin [n] [] (.b K1 V0) [.b K1 V0] rfl a)))).resolve_right λq=>by
    have:=c 0 (n - 1) ((bz B).elim (λO=>lin [n,n - 1] [] (.C 0 K0 V1) [.b K1 V0,.c V0 K1] rfl a O) (λO=>lin [n,n - 1] [] (.c K0 V1) [.b V0 (.A K1 V1),.c K1 V0] rfl (aq.mp (ay ((n) - (1)))) O)) (lin [n - 1,n] [] (.c V0 V1) [.d (.A V0 K1) V1] rfl (ak (lin [n] [] (.b K1 V0) [.b K1 V0] rfl a)))
    rw[q]at this;exact nT this
   rw[if_pos hc];exact⟨a,by show n<=_;exact lin [n,p.size - 1,p.size] [] (.b V0 V2) [.b V0 (.A K1 V1),.d (.A V1 K1) V2] rfl b (ak (lin [p.size] [] (.b K1 V0) [.b K2 V0] rfl U)),c,.refl _⟩
end
section
theorem sort_srt{lt:Nat->Nat->Bool}(o:Ord lt){n:Nat}(U:2<=n)(d:∀i j,i≠j->i<n->j<n->lt i j=true\/lt j i=true):Srt lt (ans lt (fW n)) n/\(ans lt (fW n)).Perm (az (bp n)):=by
 have hz:(az (bp n)).size=n:=by simp
 have T:∀i,i<n->(az (bp n)).getD i 0=i:=λi hi=>by
  rw[bj];simp[hi]
 have dd:Dif lt (az (bp n)):=λi j B hi u=>by
  rw[hz]at hi u;rw[T i hi,T j u];exact d i j B hi u
 have k:=LJ o dd (by rw[hz];exact U)
 rw[hz]at k;unfold fW;rw[C1];generalize ans lt (fO n (az (bp n)))=r at k;obtain⟨m,p⟩:=r;refine B5 k λa b c e=>?_;dsimp only at a b c e ⊢;have z:p.size=n:=by rw[e.size_eq,hz]
 by_cases q:m<n
 .rw[if_pos q,show max m 1=m by exact ar (lin [max m 1,m] [] (.b V0 V1) [.d V0 V1] rfl (Nat.max_eq_left (lin [m] [] (.b K1 V0) [.b K1 V0] rfl a))) (lin [m,max m 1] [] (.b V0 V1) [.b V0 V1] rfl (Nat.le_max_left m (1)))]
  refine Ao (bin_srt o (n - m) p m (lin [p.size,n,n - m,m] [] (.b (.A V3 V2) V0) [.D (-1) V0 V1,.d (.A V2 V3) V1] rfl z (ak (lin [m,n] [] (.b V0 V1) [.c V0 V1] rfl q))) c) λx y=>?_;exact⟨by rw[show m+(n - m)=n by exact ar (lin [n - m,m,n] [] (.b (.A V1 V0) V2) [.d (.A V0 V1) V2] rfl (ak (lin [m,n] [] (.b V0 V1) [.c V0 V1] rfl q))) (lin [n,m,n - m] [] (.b V0 (.A V1 V2)) [.b V0 (.A V1 V2)] rfl (aq.mp (ay ((n) - (m)))))]at x;exact x,y.trans e⟩
 .rw[if_neg q]
  have:m=n:=by exact ar (lin [m,n] [] (.b V0 V1) [.b V0 V1] rfl b) (lin [m,n] [] (.b V1 V0) [.j V0 V1] rfl q)
  clear U d hz T dd k b z q;subst this;exact⟨c,e⟩
end
section
open PySem PySem.W PySem.Calls PyProof.Rows
section
variable {prog:dz}{w:World}{A:cD}{E:Value->af->Prop}{s:af}{kS D:Addr}{ks:List Value}
theorem JZ{st:SortSt}{e u:Nat}{out:List Value}{P:gp->af->Prop}(B:s.heap.get? kS=some (cp "list" (az ks) e))(hd:s.heap.get? D=some (cp "list" #[] u))(d:D≠kS)
  (U:(arrOf st).map (·.2)=az out) (hz:out.length<64) (O:ks.length<64) (hf:failedOf st=none)
  (h:∀h' c,(∀b o,b≠kS->b≠D->s.heap.get? b=some o->h'.get? b=some o)->(∃c',h'.get? kS=some (cp "list" #[] c'))->h'.get? D=some (cp "list" (az out) c)->P (.done (.ret .none)) { s with heap:=h' }):wpAny (model prog w) A (ksk_tail D false u (.ref kS) st) P E s:=by
 have Y:=bK s.heap kS (bq λZ=>(#[]:Array Value));obtain⟨ck,hck⟩:∃ck,(s.heap.update kS (bq λZ=>(#[]:Array Value))).get? kS=some (cp "list" #[] ck):=⟨_,f9 B λZ=>#[]⟩;have y:=Y.extBut D _ d hd;have z:=bK (s.heap.update kS (bq λZ=>(#[]:Array Value))) D (bq λZ=>az out);obtain⟨c2,hc2⟩:∃c2,((s.heap.update kS (bq λZ=>(#[]:Array Value))).update D (bq λZ=>az out)).get? D=some (cp "list" (az out) c2):=⟨_,f9 y λZ=>az out⟩;have T:(az out).size=out.length:=aF;unfold ksk_tail
 try dsimp only
 rw[U];refine ac (gN B rfl ?_ (by rw[aF,dW];exact lin [ks.length] [] (.b V0 A6) [.c V0 K64] rfl O) (di _))
 refine ac (wpAny_letGo ?_);refine ac (seqEpoch_at y rfl ?_);refine ac (gN y rfl ?_ (di _) (aw (dH T) (by rw[dW];exact lin [out.length] [] (.b V0 (.A A6 K1)) [.c V0 K64] rfl hz)))
 rw[hf];simp only[bne_self_eq_false,cg,if_false];exact ah (h _ c2 (λb o b1 b2 e=>z.extBut b o b2 (Y.extBut b o b1 e)) ⟨ck,z.extBut _ _ (d0 d) hck⟩ hc2)
def SkFin(kS D:Addr)(ks vs:List Value)(e e1:Nat)(P:gp->af->Prop)(p:Array Nat)(s:af):Prop :=
 s.heap.get? kS=some (cp "list" (az ks) e)/\s.heap.get? D=some (cp "list" #[] e1)/\∀h' c,(∀b o,b≠kS->b≠D->s.heap.get? b=some o->h'.get? b=some o)->(∃c',h'.get? kS=some (cp "list" #[] c')) ->
  h'.get? D=some (cp "list" (az (p.toList.map λi=>vs.getD i bo)) c)->P (.done (.ret .none)) { s with heap:=h' }
def Hu(prog:dz)(w:World)(A:cD)(kS D:Addr)(ks vs:List Value)(e e1:Nat)(P:gp->af->Prop)(s:af):Prop :=
 if vs.length<2 then SkFin kS D ks vs e e1 P (bp vs.length).toArray s else wpAny (model prog w) A (keyKind' (az ks)) (λκ s'=>(fW vs.length).kasWp (kas_ask prog w A κ ks) (SkFin kS D ks vs e e1 P) s') (λZ Z=>False) s
theorem sk_end{vs:List Value}{e Y:Nat}{P:gp->af->Prop}(B:D≠kS)(O:ks.length=vs.length)(u:vs.length<64)
  (h:Hu prog w A kS D ks vs e Y P s) :
  wpAny (model prog w) A (ksk_end D false vs.toArray Y (.ref kS) (az ks)) P E s:=by
 unfold Hu at h
 by_cases T:vs.length<2
 .rw[if_pos T]at h
  have U:vs.toArray.size<2:=by rw[aF];exact T
  unfold ksk_end
  try dsimp only
  simp only[cg,if_false];rw[if_pos U,if_pos U];refine ac (ah ?_);refine ac (ah ?_)
  try dsimp only
  refine Bl h λf1 f2 f3=>?_;refine JZ f1 f2 B ?_ (by simp;exact lin [vs.length] [] (.c V0 K64) [.c V0 K64] rfl u) (lin [ks.length,vs.length] [] (.c V0 K64) [.d V0 V1,.c V1 K64] rfl O u) rfl f3
  have Y:(((az ks).zip (az vs)).map (·.2)).toList=vs:=by
   rw[Array.toList_map,Array.toList_zip];exact List.map_snd_zip (dH O.symm)
  have e2:((bp vs.length).map λi=>vs.getD i bo)=vs:=by
   apply ey;intro i
   by_cases z:i<vs.length
   .simp[z]
   .simp[z]
  rw[List.toList_toArray,e2];exact(congrArg az Y)
 rw[if_neg T]at h;have T:2<=vs.length:=cT.mp T;have U:¬vs.toArray.size<2:=by rw[aF];exact lin [vs.length] [] (.j V0 K2) [.b K2 V0] rfl T
 unfold ksk_end
 try dsimp only
 simp only[cg,if_false];rw[if_neg U,if_neg U];refine ac (aJ h (λκ s0 hk=>?_) λZ Z x=>x.elim)
 refine ac (aJ (kat_run (ks:=ks) (vs:=vs) (Q:=λy s'=>∃p:Array Nat,p.size=vs.length/\arrOf y=p.map (kas_item ((az ks).zip (az vs)))/\failedOf y=none/\SkFin kS D ks vs e Y P p s')
  O T u (λp' y s' a1 a2 a3 a4=>⟨p',a1,a2,a3,a4⟩) hk) ?_ λZ Z x=>x)
 intro hR1 s' hR2;obtain⟨⟨⟩,y⟩:=hR1;refine X1pppppp hR2 λp hp har hf f1 f2 f3=>?_
 try dsimp only
 exact JZ f1 f2 B (kat_snds O har) (by rw[an,gg,hp];exact u) (lin [ks.length,vs.length] [] (.c V0 K64) [.d V0 V1,.c V1 K64] rfl O u) hf f3
def SkKeys(prog:dz)(w:World)(A:cD)(kS:Addr)(f:Value)(Fin:List Value->Nat->af->Prop):List Value->List Value->Nat->af->Prop
 |[],ks,e,s=>Fin ks e s
 |v::r,ks,e,s=>wpAny (model prog w) A (call f [v]) (λk s'=>s'.heap.get? kS=some (cp "list" (az ks) e)/\∀h' c,dn kS s'.heap h'->h'.get? kS=some (cp "list" (az (ks++[k])) c)->SkKeys prog w A kS f Fin r (ks++[k]) c { s' with heap:=h' }) (λZ Z=>False) s
theorem sk_fold{f:Value}{Fin:List Value->Nat->af->Prop}{n:Nat}{body:Value->PUnit->Sem (ForInStep PUnit)}(O:n<64)
  (T:∀x ks e (s:af) (C:Value->Nat->af->Prop),bX ks<64->wpAny (model prog w) A (call f [x]) (λk s'=>s'.heap.get? kS=some (cp "list" (az ks) e)/\∀h' c,dn kS s'.heap h'->h'.get? kS=some (cp "list" (az (ks++[k])) c)->C k c { s' with heap:=h' }) (λZ Z=>False) s ->
   wpAny (model prog w) A (body x ⟨⟩) (λr s'=>r=.yield ⟨⟩/\∃k c,s'.heap.get? kS=some (cp "list" (az (ks++[k])) c)/\C k c s') E s) (r:List Value):∀(ks:List Value)(e:Nat)(s:af),ks.length+r.length=n ->
   s.heap.get? kS=some (cp "list" (az ks) e)->SkKeys prog w A kS f Fin r ks e s ->
   wpAny (model prog w) A (forIn r PUnit.unit body) (λZ s'=>∃ks e,s'.heap.get? kS=some (cp "list" (az ks) e)/\ks.length=n/\Fin ks e s') E s:=by
 induction r with
 |nil =>
  intro ks e s U B h;rw[List.forIn_nil];exact ah ⟨ks,e,B,by simpa using U,h⟩
 |cons x r y =>
  intro ks e s U B h;rw[aK]at U;rw[ej];refine ac (aJ (T x ks e s (λk c s'=>SkKeys prog w A kS f Fin r (ks++[k]) c s') (lin [n,ks.length,r.length] [] (.c V1 K64) [.c V0 K64,.d (.A V1 (.A V2 K1)) V0] rfl O U) h) (λq s' hq=>?_) λZ Z x=>x);refine X0lp q hq λY=>?_;refine X2pp Y λk c z u=>?_;show wpAny (model prog w) A (forIn r PUnit.unit body) _ E s';exact y (ks++[k]) c s' (by rw[aE,cw];exact ar (lin [ks.length,r.length,n] [] (.b (.A (.A V0 K1) V1) V2) [.d (.A V0 (.A V1 K1)) V2] rfl U) (lin [ks.length,r.length,n] [] (.b V2 (.A (.A V0 K1) V1)) [.D (-1) (.A V0 (.A V1 K1)) V2] rfl U)) z u
theorem sk_rest{vs:List Value}{f:Value}{y:Nat}{P:gp->af->Prop}(d:D≠kS)(O:s.heap.get? kS=some (cp "list" #[] 0))(u:vs.length<64)
  (h:SkKeys prog w A kS f (λks e s'=>Hu prog w A kS D ks vs e y P s') vs [] 0 s) :
  wpAny (model prog w) A (ksk_rest D f false vs.toArray y (.ref kS)) P E s:=by
 unfold ksk_rest;refine ac (wpAny_rule ?_)
 first
  |rw[List.forIn_toArray]
  |(rw[<- gw];simp only[List.toList_toArray])
  |rw[<- gw]
 refine ac (aJ (sk_fold (kS:=kS) u (λx ks e s' C hz hx=>?_) vs [] 0 s (by simp) O h) (λZ s' hd=>?_) λZ Z x=>x)
 .refine ac (eM (aJ hx (λk B O=>?_) λZ Z hF=>hF.elim))
  refine Ao O λU c=>?_;have Y:=bK B.heap kS (bq (·.push k));have ea:(az ks).push k=az (ks++[k]):=by simp
  obtain⟨c2,hc2⟩:∃c2,(B.heap.update kS (bq (·.push k))).get? kS=some (cp "list" (az (ks++[k])) c2):=⟨_,by rw[<- ea];exact f9 U (·.push k)⟩
  try dsimp only
  refine ac (gN U rfl ?_ (by rw[aF,dW];exact lin [ks.length] [] (.b V0 A6) [.c V0 K64] rfl hz) (aw (dH (Array.size_push ..)) (by rw[aF,dW];exact lin [ks.length] [] (.b (.A V0 K1) (.A A6 K1)) [.c V0 K64] rfl hz)))
  exact ah ⟨rfl,k,c2,hc2,c _ c2 Y.extBut hc2⟩
 .refine X2ppp hd λks e z hl T=>?_
  try dsimp only
  refine ac (listItems_at z rfl ?_);exact sk_end d hl u T
theorem sk_keyed{vs:List Value}{f:Value}{n:Nat}{P:gp->af->Prop}(T:s.heap.get? D=some (cp "list" vs.toArray n))(u:vs.length<64)
  (h:∀kS e1 h',D≠kS->s.heap.get? kS=none->dn D s.heap h'->h'.get? D=some (cp "list" #[] e1)->h'.get? kS=some (cp "list" #[] 0) ->
   SkKeys prog w A kS f (λks e s'=>Hu prog w A kS D ks vs e e1 P s') vs [] 0 { s with heap:=h' }) :
  wpAny (model prog w) A (ksk_tree D f false) P E s:=by
 have ha:D<s.heap.objs.size:=bc T;have Y:=bK s.heap D (bq λZ=>(#[]:Array Value));obtain⟨e1,ho1⟩:∃e1,(s.heap.update D (bq λZ=>(#[]:Array Value))).get? D=some (cp "list" #[] e1):=⟨_,f9 T λZ=>#[]⟩;have U:((s.heap.update D (bq λZ=>(#[]:Array Value))).push (cp "tuple" vs.toArray 0)).objs.size=s.heap.objs.size+1:=by rw[size_push',Heap.size_update]
 have O:D≠((s.heap.update D (bq λZ=>(#[]:Array Value))).push (cp "tuple" vs.toArray 0)).objs.size:=by rw[U];exact bO (cM ha)
 unfold ksk_tree;refine ac (listItems_at T rfl ?_);refine ac (gN T rfl ?_ (by rw[aF,dW];exact lin [vs.length] [] (.b V0 A6) [.c V0 K64] rfl u) (di _))
 refine ac (seqEpoch_at ho1 rfl ?_);refine ac (wpAny_newTuple ?_ (by show vs.length<=_;rw[dW];exact lin [vs.length] [] (.b V0 A6) [.c V0 K64] rfl u))
 refine ac (wpAny_newList ?_ (di _));refine bI ?_;refine sk_rest (s:={ s with heap:=((s.heap.update D (bq λZ=>(#[]:Array Value))).push (cp "tuple" vs.toArray 0)).push (cp "list" #[] 0) }) (kS:=((s.heap.update D (bq λZ=>(#[]:Array Value))).push (cp "tuple" vs.toArray 0)).objs.size)
  O (aD _ rfl) u (h _ e1 _ O (Heap.get?_none_of_le (by rw[U];exact fU _)) (λb o z e=>au _ (au _ (Y.extBut b o z e))) (au _ (au _ ho1)) (aD _ rfl))
end
end
section
open PySem PySem.W PySem.Calls PyProof.Rows
section
variable {prog:dz}{w:World}{A:cD}{E:Value->af->Prop}{s:af}{kS D:Addr}{ks:List Value}
theorem SkFin.mono{vs:List Value}{e u:Nat}{P y:gp->af->Prop}{p:Array Nat}(h:SkFin kS D ks vs e u P p s)(k:∀s,P (.done (.ret .none)) s->y (.done (.ret .none)) s):SkFin kS D ks vs e u y p s :=
 ⟨h.1,h.2.1,λh' c a b d=>k _ (h.2.2 h' c a b d)⟩
theorem SkKeys.mono{f:Value}{Fin O:List Value->Nat->af->Prop}(r:List Value):∀{ks:List Value}{e:Nat}{s:af},SkKeys prog w A kS f Fin r ks e s ->
  (∀d y s',d.length=ks.length+r.length->Fin d y s'->O d y s')->SkKeys prog w A kS f O r ks e s:=by
 induction r with
 |nil=>intro ks e s h T;exact T ks e s rfl h
 |cons v r U =>
  intro ks e s h T;refine aJ h (λk s' Y=>⟨Y.1,λh' c a b=>U (Y.2 h' c a b) λd y B u=>T d y B ?_⟩) λZ Z x=>x;rw[u,aE,cw,aK];exact ar (lin [ks.length,r.length] [] (.b (.A (.A V0 K1) V1) (.A V0 (.A V1 K1))) [] rfl) (lin [ks.length,r.length] [] (.b (.A V0 (.A V1 K1)) (.A (.A V0 K1) V1)) [] rfl)
theorem J0{l:Addr}{vs:List Value}{f:Value}{Q:Value->af->Prop}(hl:s.heap.IsList l vs.toArray)(u:vs.length<64)(ht:∀x,eT.«list.sort» ⟨[.ref x],[(b6 "key",f)]⟩=ksk_tree x f false)
  (h:∀D kS z h',D≠kS->s.heap.get? D=none->s.heap.get? kS=none->(∀b o,s.heap.get? b=some o->h'.get? b=some o)->h'.get? D=some (cp "list" #[] z)->h'.get? kS=some (cp "list" #[] 0) ->
   SkKeys prog w A.in1.in1 kS f (λks e s'=>Hu prog w A.in1.in1 kS D ks vs e z (λZ U=>Q (.ref D) U) s') vs [] 0 { s with heap:=h' }) :
  wpAny (model prog w) A (call (.builtin "sorted") [.ref l] [(b6 "key",f)]) Q E s:=by
 refine call_function_entry_kw kind_sorted plain_sorted entry_sorted (ksk_s1 _ _) ?_;unfold eT.«sorted»;refine ac (m:=checkCount "sorted" 1 1 _) (ah ?_);refine ac (collect_list hl ?_ (by rw[dW];exact lin [vs.length] [] (.b V0 A6) [.c V0 K64] rfl u))
 refine ac (wpAny_newList ?_ (by rw[dW];exact lin [vs.length] [] (.b V0 A6) [.c V0 K64] rfl u))
 have T:((s.heap.push (cp "list" #[] 0)).update s.heap.objs.size (bq (·++vs.toArray))).objs.size=s.heap.objs.size+1:=by
  rw[Heap.size_update,size_push']
 have y:(((s.heap.push (cp "list" #[] 0)).update s.heap.objs.size (bq (·++vs.toArray))).push (cp "list" vs.toArray 0)).get? (s.heap.objs.size+1)=some (cp "list" vs.toArray 0):=by
  rw[<- T];exact aD _ rfl
 have B:∀b o,s.heap.get? b=some o->(((s.heap.push (cp "list" #[] 0)).update s.heap.objs.size (bq (·++vs.toArray))).push (cp "list" vs.toArray 0)).get? b=some o:=λb o q=>by
  have Y:b<s.heap.objs.size:=bc q;rw[Heap.get?_push_ne _ _ _ (by rw[T];exact bO (cM Y)),Heap.get?_update_ne _ _ _ _ (bO Y),Heap.get?_push_ne _ _ _ (bO Y)]
  exact q
 show wpAny _ _ _ _ _ { s with heap:=((s.heap.push (cp "list" #[] 0)).update s.heap.objs.size (bq (·++vs.toArray))).push (cp "list" vs.toArray 0) }
 rw[T];refine ac (bI (wpAny_call_entry_kw slot_list_sort ⟨_,y,rfl⟩ entry_list_sort ?body (ksk_l1 _ _)))
 case body =>
  show wpAny (model prog w) A.in1.in1 (eT.«list.sort» ⟨[.ref (s.heap.objs.size+1)],[(b6 "key",f)]⟩) _ _ _;rw[ht];refine sk_keyed (s:={ s with heap:=((s.heap.push (cp "list" #[] 0)).update s.heap.objs.size (bq (·++vs.toArray))).push (cp "list" vs.toArray 0) }) y u λkS z h' a1 a2 a3 a4 a5=>?_
  have nD:s.heap.get? (s.heap.objs.size+1)=none:=Heap.get?_none_of_le (fU _);have nK:s.heap.get? kS=none:=by
   cases q:s.heap.get? kS with|none=>rfl|some o=>rw[B _ _ q]at a2;exact nS' a2
  refine SkKeys.mono vs (h _ kS z h' a1 nD nK (λb o q=>a3 b o (λe=>by rw[e,nD]at q;exact nS q) (B b o q)) a4 a5) λks e s' hl' d=>?_
  have O:ks.length=vs.length:=by simpa using hl'
  unfold Hu at d ⊢
  by_cases hz:vs.length<2
  .rw[if_pos hz]at d ⊢
   exact d.mono λU hq=>⟨_,rfl,ah ⟨_,rfl,hq⟩⟩
  rw[if_neg hz]at d ⊢;refine aJ d (λκ s'' hk=>?_) λZ Z x=>x;rw[kat_ask_eq (vs:=vs) O]at hk ⊢;exact kas_wp_mono hk λp s3 hk'=>hk'.mono λU hq=>⟨_,rfl,ah ⟨_,rfl,hq⟩⟩
end
end
section
open PySem PySem.W PySem.Calls PyProof.Rows
section
variable {prog:dz}{w:World}{A:cD}{E:Value->af->Prop}{s:af}
theorem Jd{a b:Int}{t u:Tok}{Q:Bool->af->Prop}(h:Q (decide (a<b)) s):wpAny (model prog w) A (oneLt' false (.int a t) (.int b u)) Q E s:=by
 rw[oneLt'_eq];simp only[cg,if_false];refine ac (lt_int ?_);exact cA h
noncomputable def AM(p q:Int×Int):Bool:=if p.1=q.1 then decide (p.2<q.2) else decide (p.1<q.1)
theorem pair_lt{x y:Addr}{p q:Int×Int}{t u z d:Tok}{n k:Nat}{Q:Bool->af->Prop}(Y:s.heap.get? x=some { cls:=.type "tuple",data:=.seq #[.int p.1 t,.int p.2 u] n })(O:s.heap.get? y=some { cls:=.type "tuple",data:=.seq #[.int q.1 z,.int q.2 d] k })
  (h:Q (AM p q) s):wpAny (model prog w) A (keyLt' (tuples' true) (.ref x) (.ref y)) Q E s:=by
 refine kat_lt Y rfl O rfl ?_;refine kat_cons (fP ?_);unfold AM at h
 by_cases e:p.1=q.1
 .rw[if_pos e]at h
  rw[show (p.1 == q.1)=true from beq_iff_eq.mpr e]
  refine kat_yes (kat_cons (fP ?_))
  by_cases T:p.2=q.2
  .rw[show (p.2 == q.2)=true from beq_iff_eq.mpr T]
   refine kat_yes (kat_nil ?_);rw[T]at h
   have:decide (q.2<q.2)=false:=decide_eq_false (Int.lt_irrefl _)
   rw[this]at h;exact h
  .rw[show (p.2 == q.2)=false from beq_eq_false_iff_ne.mpr T]
   exact kat_no (Jd h)
 .rw[if_neg e]at h
  rw[show (p.1 == q.1)=false from beq_eq_false_iff_ne.mpr e]
  exact kat_no (oneLt_int h)
theorem pairLt_iff{p q:Int×Int}:AM p q=true↔(p.1<q.1\/(p.1=q.1/\p.2<q.2)):=by
 unfold AM
 by_cases e:p.1=q.1
 .rw[if_pos e,decide_eq_true_eq];exact⟨λh=>.inr ⟨e,h⟩,λh=>h.elim (λh=>(Int.ne_of_lt h e).elim) (·.2)⟩
 .rw[if_neg e,decide_eq_true_eq];exact⟨.inl,λh=>h.elim id λh=>(e h.1).elim⟩
theorem Cc{p q:Int×Int}(h:AM p q=false):q.1<=p.1/\(p.1=q.1->q.2<=p.2) :=
 have z:=λy=>cJ.mp h (pairLt_iff.mpr y)
 ⟨fH.mp λy=>z (.inl y),λe=>fH.mp λy=>z (.inr ⟨e,y⟩)⟩
theorem Jc(k:Nat->Int×Int):Ord λi j=>AM (k i) (k j) where
 trans:=λa b c u U=>by
  refine Ao (Cc u) λy a2=>?_;refine Ao (Cc U) λz b2=>?_;refine cJ.mpr λO=>?_
  rcases pairLt_iff.mp O with B|⟨B,T⟩
  .exact lin [] [(k a).fst,(k b).fst,(k c).fst] .no [.f V0 V1,.f V1 V2,.g V2 V0] rfl y z B
  .have a3:=a2 (ai (lin [] [(k b).fst,(k c).fst,(k a).fst] (.f V0 V2) [.f V0 V1,.h V1 V2] rfl z B) (lin [] [(k a).fst,(k b).fst] (.f V0 V1) [.f V0 V1] rfl y))
   have d:=b2 (ai (lin [] [(k a).fst,(k b).fst,(k c).fst] (.f V2 V1) [.f V0 V1,.h V2 V0] rfl y B) (lin [] [(k b).fst,(k c).fst] (.f V0 V1) [.f V0 V1] rfl z));exact lin [] [(k c).snd,(k a).snd,(k b).snd] .no [.g V0 V1,.f V1 V2,.f V2 V0] rfl T a3 d
 up:=λa b c u U=>by
  refine Ao (Cc U) λy a2=>?_;refine Bool.not_eq_false _▸λO=>?_;refine Ao (Cc O) λz b2=>?_
  rcases pairLt_iff.mp u with B|⟨B,T⟩
  .exact lin [] [(k a).fst,(k b).fst,(k c).fst] .no [.f V0 V1,.f V1 V2,.g V2 V0] rfl y z B
  .have a3:=a2 (ai (lin [] [(k b).fst,(k c).fst,(k a).fst] (.f V0 V2) [.f V0 V1,.h V1 V2] rfl z B) (lin [] [(k a).fst,(k b).fst] (.f V0 V1) [.f V0 V1] rfl y))
   have d:=b2 (ai (lin [] [(k a).fst,(k b).fst,(k c).fst] (.f V2 V1) [.f V0 V1,.h V2 V0] rfl y B) (lin [] [(k b).fst,(k c).fst] (.f V0 V1) [.f V0 V1] rfl z));exact lin [] [(k c).snd,(k a).snd,(k b).snd] .no [.g V0 V1,.f V1 V2,.f V2 V0] rfl T a3 d
 irr:=λa=>by unfold AM;rw[if_pos rfl];exact decide_eq_false (Int.lt_irrefl _)
 asym:=λa b u U=>by
  rcases pairLt_iff.mp u with B|⟨B,T⟩
  .rcases pairLt_iff.mp U with Y|⟨Y,d2⟩
   .exact lin [] [(k a).fst,(k b).fst] .no [.g V0 V1,.g V1 V0] rfl B Y
   .exact lin [] [(k a).fst,(k b).fst] .no [.g V0 V1,.h V1 V0] rfl B Y
  .rcases pairLt_iff.mp U with Y|⟨Y,d2⟩
   .exact lin [] [(k a).fst,(k b).fst] .no [.h V0 V1,.g V1 V0] rfl B Y
   .exact lin [] [(k a).snd,(k b).snd] .no [.g V0 V1,.g V1 V0] rfl T d2
end
end
section
open PySem PySem.W PySem.Calls PyProof.Rows
section
variable {prog:dz}{w:World}{A:cD}{E:Value->af->Prop}{s:af}
def IsPr(h:Heap)(v:Value)(p:Int×Int):Prop:=∃a t u n,v=.ref a/\h.get? a=some { cls:=.type "tuple",data:=.seq #[.int p.1 t,.int p.2 u] n }
theorem I8{h:Heap}(ks:List Value)(B:∀v∈ks,∃p,IsPr h v p):∃fs,KatTups h ks fs/\fs.length=ks.length/\∀v∈fs,∃i t,v=.int i t:=by
 induction ks with
 |nil=>exact⟨[],.nil,rfl,λv z=>absurd z bh⟩
 |cons v ks y =>
  refine X5lp v (B _ (.head _)) λp a t u n e=>?_;refine X1ppp (y λv z=>B v (.tail _ z)) λfs d T Y=>?_;exact⟨.int p.1 t::fs,KatTups.cons e rfl rfl rfl d,congrArg fS T,λv z=>(ax.mp z).elim (λq=>⟨_,_,q⟩) (Y v)⟩
theorem I9{ks:List Value}{Q:SortKind->af->Prop}(B:∀v∈ks,∃p,IsPr s.heap v p)(d:0<ks.length)(h:Q (tuples' true) s):wpAny (model prog w) A (keyKind' ks.toArray) Q E s:=by
 refine X1ppp (I8 ks B) λfs u O Y=>?_;refine kat_kind (T:=.type "int") u (lin [ks.length,fs.length] [] (.c K0 V1) [.c K0 V0,.D (-1) V1 V0] rfl d O) (λv z=>?_) rfl h;refine X2l v (Y v z) λi t=>?_;exact .now
end
end
section
open PySem PySem.W PySem.Calls PyProof.Rows
def AR{α:Type}(n:Nat)(R:α->Prop):KasT α->Prop
 |.ret a=>R a
 |.ask i j k=>i<n/\j<n/\∀b,AR n R (k b)
theorem AR.bind{α β:Type}{n:Nat}{R:α->Prop}{B:β->Prop}{f:α->KasT β}(t:KasT α)(h:AR n R t)(T:∀a,R a->AR n B (f a)):AR n B (t.bind f):=by
 induction t with|ret a=>exact T a h|ask i j k y=>exact⟨h.1,h.2.1,λb=>y b (h.2.2 b)⟩
def AllLt(n:Nat)(p:Array Nat):Prop:=∀k,p.getD k 0<n
theorem AllLt.perm{n:Nat}{p q:Array Nat}(O:0<n)(h:AllLt n p)(e:q.Perm p):AllLt n q:=λk=>by
 rw[bj]
 cases g:q[k]? with
 |none=>exact O
 |some x =>
  have u:x∈q:=Array.mem_of_getElem? g;have d:x∈p:=e.mem_iff.mp u;obtain⟨i,hi,rfl⟩:=Array.mem_iff_getElem.mp d
  have:=h i
  rw[bj,Array.getElem?_eq_getElem hi]at this;exact this
theorem ar_asc{n:Nat}{p:Array Nat}(h:AllLt n p)(f:Nat):∀m,AR n (λZ=>True) (dA p f m):=by
 induction f with
 |zero=>intro m;exact trivial
 |succ f y =>
  intro m;refine⟨h _,h _,λb=>?_⟩
  cases b
  .exact y (m+1)
  .exact trivial
theorem ar_desc{n:Nat}(O:0<n)(f:Nat):∀(p:Array Nat)(m q:Nat),AllLt n p->AR n (λr=>AllLt n r.1) (kas_desc f p m q):=by
 induction f with
 |zero=>intro p m q h;exact h
 |succ f y =>
  intro p m q h;refine⟨h _,h _,λb=>?_⟩
  cases b
  .refine⟨h _,h _,λb=>?_⟩
   cases b
   .exact y p (m+1) (q+1) h
   .exact h
  .show AR n _ (if q > 0 then _ else _)
   by_cases c:q > 0
   .rw[if_pos c];exact y _ _ _ (h.perm O (fV _ _ _ _))
   .rw[if_neg c];exact y _ _ _ h
theorem IJ{n:Nat}(O:0<n){p:Array Nat}(h:AllLt n p)(m r:Nat):AR n (λr=>AllLt n r.2) (kas_tail3 m r p) :=
 AR.bind _ (ar_asc (h.perm O (fV _ _ _ _)) _ _) λZ Z=>h.perm O (fV _ _ _ _)
theorem Eh{n:Nat}(O:0<n){p:Array Nat}(h:AllLt n p)(m r:Nat):AR n (λr=>AllLt n r.2) (kas_descPart m r p):=by
 refine AR.bind _ (ar_desc O _ _ _ _ h) λa ha=>?_
 by_cases c:a.2.2 > 0
 .rw[if_pos c];exact IJ O (ha.perm O (fV _ _ _ _)) _ _
 .rw[if_neg c];exact IJ O ha _ _
theorem ar_count{n:Nat}(O:0<n){p:Array Nat}(h:AllLt n p)(r:Nat):AR n (λr=>AllLt n r.2) (fO r p):=by
 refine AR.bind _ (ar_asc h _ _) λm Z=>?_
 by_cases c:(m == r)=true
 .rw[if_pos c];exact h
 .rw[if_neg c]
  by_cases d:m > 1
  .rw[if_pos d]
   refine⟨h _,h _,λb=>?_⟩
   cases b
   .exact Eh O (h.perm O (fV _ _ _ _)) _ _
   .exact h
  .rw[if_neg d];exact Eh O h _ _
theorem ar_place{n:Nat}{p:Array Nat}(h:AllLt n p)(k f:Nat):∀l r,AR n (λZ=>True) (g0 p k f l r):=by
 induction f with
 |zero=>intro l r;exact trivial
 |succ f y =>
  intro l r;show AR n _ (if l >= r then _ else _)
  by_cases c:l >= r
  .rw[if_pos c];exact trivial
  .rw[if_neg c]
   refine⟨h _,h _,λb=>?_⟩
   cases b
   .exact y _ _
   .exact y _ _
theorem ar_bin{n:Nat}(O:0<n)(f:Nat):∀(p:Array Nat)(k:Nat),AllLt n p->AR n (λZ=>True) (kas_bin f p k):=by
 induction f with|zero=>intro p k _;exact trivial|succ f y=>intro p k h;exact AR.bind _ (ar_place h _ _ _ _) λl Z=>y _ _ (h.perm O (bubble_perm _ _ _))
theorem ar_sort{n:Nat}(O:0<n):AR n (λZ=>True) (fW n):=by
 refine AR.bind _ (ar_count O (p:=az (bp n)) (λk=>?_) _) λr y=>?_
 .rw[bj]
  cases g:(az (bp n))[k]? with
  |none=>exact O
  |some x =>
   have:x∈bp n:=by simpa using Array.mem_of_getElem? g
   exact fp.mp this
 .by_cases c:r.1<n
  .rw[if_pos c];exact ar_bin O _ _ _ y
  .rw[if_neg c];exact trivial
end
section
open PySem PySem.W PySem.Calls PyProof.Rows
theorem kasWp_ar{α:Type}{n:Nat}{R:α->Prop}{cmp:Nat->Nat->(Bool->af->Prop)->af->Prop}{lt:Nat->Nat->Bool}{I:af->Prop}(h:∀i j C s,i<n->j<n->I s->(∀s',I s'->C (lt i j) s')->cmp i j C s){Q:α->af->Prop}(t:KasT α)(ht:AR n R t) :
  ∀{s:af},I s->(∀s',I s'->Q (ans lt t) s')->t.kasWp cmp Q s:=by
 induction t with|ret a=>intro s hs hq;exact hq s hs|ask i j k y=>intro s hs hq;exact h i j _ s ht.1 ht.2.1 hs λs' Y=>y (lt i j) (ht.2.2 _) Y hq
section
variable {prog:dz}{w:World}{A:cD}{s:af}
theorem GQ{ks:List Value}{kk:Nat->Int×Int}{n:Nat}{G:Array Nat->af->Prop}(O:0<n)(B:∀i,i<n->IsPr s.heap (ks.getD i bo) (kk i))(h:G (ans (λi j=>AM (kk i) (kk j)) (fW n)) s) :
  (fW n).kasWp (kas_ask prog w A (tuples' true) ks) G s:=by
 refine kasWp_ar (I:=λs'=>s'=s) (lt:=λi j=>AM (kk i) (kk j)) (λi j C s' hi y hs z=>?_) _ (ar_sort O) rfl λs' e=>e▸h;clear h;subst hs;unfold kas_ask;refine X4pp (B i hi) λa t u m d Y=>?_;refine X4pp (B j y) λb t' u' m' U T=>?_;rw[d,U];exact pair_lt Y T (z _ rfl)
theorem Kl{kk:Nat->Int×Int}{n:Nat}(U:2<=n)(d:∀i j,i≠j->i<n->j<n->kk i≠kk j) :
  Srt (λi j=>AM (kk i) (kk j)) (ans (λi j=>AM (kk i) (kk j)) (fW n)) n/\(ans (λi j=>AM (kk i) (kk j)) (fW n)).Perm (az (bp n)) :=
 sort_srt (Jc kk) U λi j u hi y=>by
  have:=d i j u hi y
  unfold AM
  by_cases e:(kk i).1=(kk j).1
  .rw[if_pos e,if_pos e.symm,decide_eq_true_eq,decide_eq_true_eq]
   have:(kk i).2≠(kk j).2:=λY=>this (bY e Y)
   exact bT λB=>(bz u).elim (λO=>(aH this).elim (λT=>lin [] [(kk i).snd,(kk j).snd] .no [.l V0 V1,.g V0 V1] rfl (λz=>B (.inl z)) T) (λT=>lin [] [(kk j).snd,(kk i).snd] .no [.l V0 V1,.g V0 V1] rfl (λz=>B (.inr z)) T)) (λO=>(aH this).elim (λT=>lin [] [(kk i).snd,(kk j).snd] .no [.l V0 V1,.g V0 V1] rfl (λz=>B (.inl z)) T) (λT=>lin [] [(kk j).snd,(kk i).snd] .no [.l V0 V1,.g V0 V1] rfl (λz=>B (.inr z)) T))
  .rw[if_neg e,if_neg (d0 e),decide_eq_true_eq,decide_eq_true_eq]
   exact bT λB=>(bz u).elim (λO=>(aH e).elim (λT=>lin [] [(kk i).fst,(kk j).fst] .no [.l V0 V1,.g V0 V1] rfl (λz=>B (.inl z)) T) (λT=>lin [] [(kk j).fst,(kk i).fst] .no [.l V0 V1,.g V0 V1] rfl (λz=>B (.inr z)) T)) (λO=>(aH e).elim (λT=>lin [] [(kk i).fst,(kk j).fst] .no [.l V0 V1,.g V0 V1] rfl (λz=>B (.inl z)) T) (λT=>lin [] [(kk j).fst,(kk i).fst] .no [.l V0 V1,.g V0 V1] rfl (λz=>B (.inr z)) T))
end
end
section
variable {S:Sta}
section
variable {tb:List Nat}{env:Env}{N P Z:Addr->Prop}{b:Store×af}{m:Vars}{V:Store}{s:af}{h':Heap}
theorem St.apartZ{tk:Nat}(hs:Internal.St S tb env N P b m V s)(k:∀b o,s.heap.get? b=some o->h'.get? b=some o)(z:∀a,Z a->s.heap.get? a=aa/\∃o,h'.get? a=some o/\∀vs,o.data≠.fields vs) :
  Internal.St S tb env (λa=>N a\/Z a) P b m V { s with heap:=h',toks:=tk }/\Step noO noO V s V { s with heap:=h',toks:=tk }:=by
 refine Ao (hs.grow k tk) λU st=>?_;have B:Ext (DN N V) s.heap h':=Ext.of_keeps k;have T:∀b,DN (λa=>N a\/Z a) V b->DN N V b\/s.heap.get? b=aa:=by
  rintro b (q|q|q)
  .exact .inl (.inl q)
  .exact .inl (.inr q)
  .exact .inr (z b q).1
 refine⟨⟨⟨U.inv.keep,U.inv.gens,U.inv.drawn,U.inv.os,U.inv.σg,?_,?_,λa o e=>(hs.inv.rep a o e).ext B T (k a)⟩,?_,U.frm,λa q=>.inl (hs.pN a q),hs.new,λa q=>.inl (hs.own a q),hs.gb⟩,st⟩
 .rintro a d (q|q)
  .exact hs.inv.σN a d q
  .exact hs.inv.not_dom (z a q).1 d
 .rintro a (q|q)
  .exact U.inv.Nin a q
  .exact(z a q).2
 .have O:=hs.loc
  obtain⟨_,_,_,_,O,_⟩:=O;exact hs.loc.map (λa o Y e=>k a o e) (λa q=>(O a q).1) λr=>r.ext B T
theorem St.turnZ(hs:Internal.St S tb env N P b m V s)(U:∀a,Z a->N a/\¬Own env a/\b.2.heap.get? a=aa)(T:∀c o,¬Z c->s.heap.get? c=some o->h'.get? c=some o)(y:∀a,Z a->∃o,h'.get? a=some o/\∀vs,o.data≠.fields vs) :
  Internal.St S tb env N P b m V { s with heap:=h' }/\Step P Z V s V { s with heap:=h' }:=by
 have e0:Ext (DN N V) s.heap h':=Ext.of_but λc o d e=>T c o (λq=>d (.inr (U c q).1)) e;have hD:∀c,DN N V c->DN N V c\/s.heap.get? c=aa:=λc q=>.inl q;have rep:∀{av v},Rep S.cv s.heap (DN N V) av v->Rep S.cv h' (DN N V) av v:=λr=>r.ext e0 hD;have there:∀a o,s.heap.get? a=some o->∃u,h'.get? a=some u:=λa o e=>by
  by_cases q:Z a
  .refine X1pp (y a q) λu B Y=>?_;exact⟨u,B⟩
  .exact⟨o,T a o q e⟩
 obtain⟨mc,cm,n,cc,ow,ap,cl,rr⟩:=hs.loc;refine⟨⟨⟨λa o e=>T a o (λq=>?_) (hs.inv.keep a o e),hs.inv.gens,hs.inv.drawn,hs.inv.os,hs.inv.σg,hs.inv.σN,λa q=>?_,λa o e=>(hs.inv.rep a o e).ext e0 hD λob B=>T a ob (λz=>hs.inv.σN a (by unfold Dom;rw[e];simp) (U a z).1) B⟩,?_,?_,hs.pN,hs.new,hs.own,hs.gb⟩,
  Step.of_but (λa o Y n e=>T a o n e) (λY h=>.inl h) there⟩
 .rw[hs.gb a (U a q).2.2]at e;exact nS e
 .refine X1pp (hs.inv.Nin a q) λo e nf=>?_
  by_cases z:Z a
  .exact y a z
  .exact⟨o,T a o z e,nf⟩
 .refine⟨mc,cm,?_,λz a hz=>?_,ow,ap,cl,λz j av hj hm=>?_⟩
  .refine X3pp n λo es ep e d=>?_;exact⟨o,es,ep,T _ _ (λq=>(U _ q).2.1 (.inl rfl)) e,d⟩
  .refine X1pp (cc z a hz) λo e d=>?_;exact⟨o,T _ _ (λq=>(U _ q).2.1 (.inr ⟨z,hz⟩)) e,d⟩
  .exact LocAt.map (rr z j av hj hm) (λh2=>rep h2) (λY O=>O) (λY O=>O)
 .exact hs.frm.over λa e o=>T a o λq=>e.elim λo e=>Am (U a q).2.2 e
end
def KeyT(S:Sta)(k:Nat)(fv:Value)(key:AV->Ag)(l:List AV):Prop:=∀x∈l,∀(V:Store)(Q:AV->Store->Prop),Q (sp (key x)) V->CallT S k fv [x] V Q noX
section
variable {F:Fx S}{m:Vars}{V:Store}{s:af}{X:Value->af->Prop}{Q:AV->Store->Prop}
theorem HD{kS D:Addr}{oD:Obj}{Z:Addr->Prop}{fv:Value}{key:AV->Ag}{kf:Nat}{Fin:List Value->Nat->af->Prop}(hZ:∀a,Z a->F.N a/\¬F.O a/\F.b.2.heap.get? a=aa/\¬F.P a)(zk:Z kS)(zD:Z D)(hne:D≠kS)(hk:kf+2<=F.k){Ak:af}{L:List AV} :
  ∀(r:List AV)(d:List AV)(rv ks:List Value)(e:Nat)(s:af),KeyT S kf fv key r->L=d++r->F.St m V s->Step F.P Z V Ak V s->RepL S.cv s.heap (F.D V) r rv->s.heap.get? D=some oD->s.heap.get? kS=some (AH ks.toArray e)->RepL S.cv s.heap (F.D V) (d.map λx=>sp (key x)) ks ->
  (∀ks' e' s',F.St m V s'->Step F.P Z V Ak V s'->s'.heap.get? D=some oD->s'.heap.get? kS=some (AH (az ks') e')->RepL S.cv s'.heap (F.D V) (L.map λx=>sp (key x)) ks'->Fin ks' e' s')->SkKeys S.prog S.w F.A.in1.in1 kS fv Fin rv ks e s
 |[],d,rv,ks,e,s,_,hL,hs,st,rr,gD,g,rk,fin=>by
  rw[show rv=[] from rr.inv]
  rw[aL]at hL;subst hL;exact fin ks e s hs st gD g rk
 |x::r,d,rv,ks,e,s,hkey,hL,hs,st,rr,gD,g,rk,fin=>by
  obtain⟨v,rv,rfl,rx,rr⟩:=rr.inv;have room:Room S F.N kf F.A.in1.in1:=Room.in1 (Room.in1 ⟨F.room.hh,F.room.fr,by have:=F.room.dp;exact lin [kf,F.k,F.A.depth] [] (.c (.A V2 (.M 2 (.A (.A V0 K1) K1))) L9) [.B 2 (.A V0 K2) V1,.c (.A V2 (.M 2 V1)) L9] rfl hk this,by have:=F.room.un;exact lin [kf,F.k,F.A.units] [] (.c (.A V2 (.M 20 (.A (.A V0 K1) K1))) B7) [.B 20 (.A V0 K2) V1,.c (.A V2 (.M 20 V1)) B7] rfl hk this⟩)
  refine wpAny_call (dG (hkey x (.head _) V (λa V'=>a=sp (key x)/\V=V') ⟨rfl,rfl⟩ F.N F.A.in1.in1 [v] s room hs.inv (.cons rx .nil)) λres s' z=>?_)
  cases res with
  |error err=>obtain⟨ea,c,V',Ac,h1,h2,h3,h4,h5⟩:=z;exact h5.elim
  |ok fl =>
   cases fl with
   |ret k =>
    obtain⟨av,V',st',i,ra,rfl,rfl⟩:=z;have hs':F.St m V s':=hs.to st' i λY h=>h;have T:∀a o,Z a->s.heap.get? a=some o->s'.heap.get? a=some o:=λa o z e=>st'.ext.obj _ _ e λq=>q.elim (λq=>hs.inv.σN _ q (hZ a z).1) λq=>q.elim (λq=>q.elim) (hZ a z).2.2.2;have u:Step F.P Z V s V s':=st'.mono λY h=>h.elim;refine⟨T _ _ zk g,λh'' c eb gk=>?_⟩;obtain⟨hs2,st2⟩:=St.turnZ (Z:=(·=kS)) (h':=h'') hs' (λa q=>by clear g;subst q;exact⟨(hZ _ zk).1,(hZ _ zk).2.1,(hZ _ zk).2.2.1⟩) (λa o q e=>eb a o q e) (λa q=>by clear g;subst q;exact⟨_,gk,λvs z=>by exact nDf rfl z⟩)
    have U:Step F.P Z V s' V { s' with heap:=h'' }:=st2.mono λa q=>by clear g st2;subst q;exact zk
    have zN:∀a,Z a->F.N a:=λa z=>(hZ a z).1;refine HD hZ zk zD hne hk r (d++[x]) rv (ks++[k]) c _ (λy hy=>hkey y (.tail _ hy)) (by rw[hL];simp) hs2 ((st.trans u).trans U) ?_ (eb D _ hne (T _ _ zD gD)) gk ?_ fin
    .exact((rr.step u zN hs.pN).step U zN hs.pN)
    .rw[bB]
     exact RepL.snoc ((rk.step u zN hs.pN).step U zN hs.pN) (ra.step U zN hs.pN)
   |_=>exact z.elim
theorem RepL.at{cv:Nat->Value}{h:Heap}{D:Addr->Prop}:∀{L:List AV}{vs:List Value},RepL cv h D L vs->∀i,i<L.length->Rep cv h D (L.getD i .none) (vs.getD i bo)
 |[],_,_,i,hi=>absurd hi (ek _)
 |x::L,vs,r,i,hi=>by
  refine X2lpp vs r.inv λv z B d=>?_
  cases i with|zero=>exact B|succ i=>exact RepL.at d i (d8 hi)
theorem RepL.pick{cv:Nat->Value}{h:Heap}{D:Addr->Prop}{L:List AV}{vs:List Value}(r:RepL cv h D L vs):∀{p:List Nat},(∀i∈p,i<L.length)->RepL cv h D (p.map λi=>L.getD i .none) (p.map λi=>vs.getD i bo)
 |[],_=>.nil
 |i::p,h=>.cons (r.at i (h i (.head _))) (RepL.pick r λj y=>h j (.tail _ y))
theorem Dc{α:Type}(L:List α)(d:α):(bp L.length).map (λi=>L.getD i d)=L:=by
 apply ey;intro i
 by_cases z:i<L.length
 .simp[z]
 .simp[z]
theorem key_ne{L:List AV}{key:AV->Ag}(z:(L.map key).Nodup){i j:Nat}(h:i≠j)(hi:i<L.length)(y:j<L.length):key (L.getD i .none)≠key (L.getD j .none):=by
 intro e;have B:i<(L.map key).length:=by rw[an];exact hi
 have T:j<(L.map key).length:=by rw[an];exact y
 have:(L.map key)[i]=(L.map key)[j]:=by
  rw[gX,gX];rw[aB,aB,aA hi,aA y]at e;exact e
 exact h ((List.getElem_inj z).mp this)
theorem Jb{p q:Ag}(h:p≠q)(n:AM q p=false):AM p q=true:=by
 obtain⟨a,b⟩:=p;obtain⟨c,d⟩:=q;unfold AM at *;dsimp only at *
 by_cases e:a=c
 .subst e
  rw[if_pos rfl]at n ⊢;rw[decide_eq_false_iff_not]at n;rw[decide_eq_true_eq]
  have:b≠d:=λz=>h (by rw[z])
  exact(aH this).elim (λB=>lin [] [b,d] (.g V0 V1) [.g V0 V1] rfl B) (λB=>lin [] [d,b] (.G 0 V1 V0) [.l V0 V1,.g V0 V1] rfl n B)
 .rw[if_neg e]
  rw[if_neg (d0 e),decide_eq_false_iff_not]at n;rw[decide_eq_true_eq];exact(aH e).elim (λB=>lin [] [a,c] (.g V0 V1) [.g V0 V1] rfl B) (λB=>lin [] [c,a] (.G 0 V1 V0) [.l V0 V1,.g V0 V1] rfl n B)
structure Picks(L:List AV)(key:AV->Ag)(p:List Nat):Prop where
 lt:∀i∈p,i<L.length
 perm:(p.map λi=>L.getD i .none).Perm L
 up:(p.map λi=>L.getD i .none).Pairwise λx y=>AM (key x) (key y)=true
theorem Ki{L:List AV}{key:AV->Ag}(h:L.length<2):Picks L key (bp L.length):=by
 refine⟨λi hi=>fp.mp hi,?_,?_⟩
 .rw[Dc]
 .rw[Dc]
  match L,h with
  |[],_=>exact .nil
  |[x],_=>exact List.pairwise_singleton _ _
theorem I7{L:List AV}{key:AV->Ag}(U:(L.map key).Nodup){p:Array Nat}(hs:Srt (λi j=>AM (key (L.getD i .none)) (key (L.getD j .none))) p L.length)(u:p.Perm (az (bp L.length))):Picks L key p.toList:=by
 have u:p.toList.Perm (bp L.length):=by simpa using Array.perm_iff_toList_perm.mp u
 have lt:∀i∈p.toList,i<L.length:=λi hi=>fp.mp (u.mem_iff.mp hi);refine⟨lt,?_,?_⟩
 .have:=u.map λi=>L.getD i .none
  rwa [Dc]at this
 .rw[cz,List.pairwise_iff_getElem]
  intro i j hi y B;have T:p.toList.Nodup:=u.nodup_iff.mpr List.nodup_range;have z:p.toList.length=L.length:=by rw[u.length_eq,gJ]
  have ne:p.toList[i]≠p.toList[j]:=λe=>bO B ((List.getElem_inj T).mp e);have g:∀k (O:k<p.toList.length),p.getD k 0=p.toList[k]:=λk O=>by
   have:k<p.size:=by simpa using O
   simp[Array.getD,this]
  have:=hs i j B (lin [j,p.toList.length,L.length] [] (.c V0 V2) [.c V0 V1,.d V1 V2] rfl y z)
  rw[g i hi,g j y]at this;exact Jb (key_ne U ne (lt _ (gY hi)) (lt _ (gY y))) this
noncomputable def Fx.more(F:Fx S)(Z:Addr->Prop):Fx S:=⟨F.A,F.tb,F.env,F.b,λa=>F.N a\/Z a,F.k,F.room.wide (λY q=>.inl q),F.fk,F.fg,F.fb,F.fc⟩
theorem KM{h:Heap}{D:Addr->Prop}{cv:Nat->Value}{L:List AV}{key:AV->Ag}{ks:List Value}(r:RepL cv h D (L.map λx=>sp (key x)) ks)(i:Nat)(hi:i<L.length):IsPr h (ks.getD i bo) (key (L.getD i .none)):=by
 have T:i<(L.map λx=>sp (key x)).length:=by rw[an];exact hi
 have:=r.at i T
 have e:(L.map λx=>sp (key x)).getD i .none=sp (key (L.getD i .none)):=by
  rw[aB,aB,aT,aA hi];rfl
 rw[e]at this;refine X4ppp (Rep.spot this) λt B O n d u Z=>?_;exact⟨t,B,O,n,d,u⟩
theorem GK{l:Addr}{vs:List Value}{n:Nat}{L:List AV}{fv:Value}{key:AV->Ag}{kf:Nat}(hk:kf+2<=F.k)(hkey:KeyT S kf fv key L)(h64:L.length<64)(nd:(L.map key).Nodup)
  (ht:∀x,eT.«list.sort» ⟨[.ref x],[(b6 "key",fv)]⟩=ksk_tree x fv false) (hs:F.St m V s) (e:s.heap.get? l=some (AH vs.toArray n)) (r:RepL S.cv s.heap (F.D V) L vs)
  (hQ:∀L',L'.Perm L->L'.Pairwise (λx y=>AM (key x) (key y)=true)->Fresh V (.list L') (.list L') Q):VT F m V s (call (.builtin "sorted") [.ref l] [(b6 "key",fv)]) Q X:=by
 have U:vs.length=L.length:=r.length;refine J0 ⟨_,e,rfl,n,rfl⟩ (by rw[U];exact h64) ht λD kS e1 h' hne nD nK k gD gK=>?_
 have T:∀a,a=D\/a=kS->s.heap.get? a=aa:=λa q=>q.elim (λq=>q▸nD) (λq=>q▸nK);have gZ:∀a,a=D\/a=kS->∃o,h'.get? a=some o/\∀vs,o.data≠.fields vs:=λa q=>q.elim (λq=>⟨_,q▸gD,λY z=>by exact nDf rfl z⟩) (λq=>⟨_,q▸gK,λY z=>by exact nDf rfl z⟩)
 refine Ao (hs.apartZ (Z:=λa=>a=D\/a=kS) (tk:=s.toks) k λa q=>⟨T a q,gZ a q⟩) λhs1 st1=>?_;have nN:∀a,a=D\/a=kS->¬F.N a:=λa q z=>by refine X1pp (hs.inv.Nin a z) λo eo Y=>?_;exact Am (T a q) eo
 have Y:∀a,a=D\/a=kS->(F.N a\/a=D\/a=kS)/\¬F.O a/\F.b.2.heap.get? a=aa/\¬F.P a:=λa q=>⟨.inr q,λz=>nN a q (hs.own a z),hs.frm.new (T a q),λz=>nN a q (hs.pN a z)⟩;have zN:∀a,(a=D\/a=kS)->F.N a\/a=D\/a=kS:=λa q=>.inr q;have r1:RepL S.cv h' (DN (λa=>F.N a\/a=D\/a=kS) V) L vs:=r.ext (Ext.of_keeps k) λb q=>q.elim (λq=>.inl (.inl q)) λq=>q.elim (λq=>.inl (.inr q)) λq=>.inr (T b q);refine HD (F:=F.more λa=>a=D\/a=kS) (Ak:={ s with heap:=h' }) (m:=m) (V:=V) (D:=D) (oD:=AH #[] e1) Y (.inr rfl) (.inl rfl) hne hk L [] vs [] 0 _ hkey rfl hs1 (Step.refl _ _ _ _) r1 gD gK .nil ?_
 intro ks' e' s' hs' st' gD' gk' rk;have hl:ks'.length=L.length:=by have:=rk.length;rw[an]at this;exact this
 have r2:=r1.step st' zN hs'.pN;have fin:∀p:Array Nat,Picks L key p.toList->SkFin kS D ks' vs e' e1 (λY s4=>PW F m V s (PV F Q) (.ref D) s4) p s':=λp hp=>by
  refine⟨gk',gD',λu c hb hkc hD'=>?_⟩;obtain⟨hs3,st3⟩:=St.turnZ (Z:=λa=>a=D\/a=kS) (h':=u) hs' (λa q=>⟨.inr q,(Y a q).2.1,(Y a q).2.2.1⟩) (λb o q e=>hb b o (λz=>q (.inr z)) (λz=>q (.inl z)) e) (λa q=>q.elim (λq=>⟨_,q▸hD',λY z=>by exact nDf rfl z⟩) λq=>by refine X1p hkc λc' ec=>?_;exact⟨_,q▸ec,λY z=>by exact nDf rfl z⟩)
  have r3:=(r2.step st3 zN hs'.pN).pick hp.lt;have st:Step F.P noO V s V { s' with heap:=u }:=Step.out (st1.wide λY h=>h.elim) (st'.trans st3) T
  rcases hQ _ hp.perm hp.up with q|⟨i,q⟩
  .have h1:F.St m V { s' with heap:=u }:=hs3.open_ (λY q=>.inl q) hs.own hs.pN
   exact⟨V,st.mono λY h=>h.elim,h1,_,.list hD' (hs.inv.not_D nD) (r3.less λa q=>q.imp id .inl),q⟩
  .have h1:Internal.St S F.tb F.env (λa=>F.N a\/a=D) F.P F.b m V { s' with heap:=u }:=hs3.open_ (λY q=>q.imp id .inl) (λa q=>.inl (hs.own a q)) (λa q=>.inl (hs.pN a q))
   have B:F.St m (V.set D (.list (p.toList.map λi=>L.getD i .none))) { s' with heap:=u }:=h1.take hs.own hs.pN (nN D (.inl rfl)) (hs.frm.new nD) (.list hD' (r3.less λa q=>q.imp id λq=>q.imp id .inl))
   have st4:Step F.P noO V s (V.set D (.list (p.toList.map λi=>L.getD i .none))) { s' with heap:=u }:=⟨st.ext,st.frm,λa d=>(A3 d).elim (λz=>.inr (by rw[z];exact nD)) (st.dom a),st.there⟩
   exact⟨_,st4.mono λY h=>h.elim,B,_,.loc D i,q D (hs.inv.not_dom nD)⟩
 unfold Hu
 by_cases B:vs.length<2
 .rw[if_pos B]
  exact fin _ (by rw[U]at B ⊢;exact Ki B)
 .rw[if_neg B]
  refine I9 (λv hv=>?_) (lin [vs.length,L.length,ks'.length] [] (.c K0 V2) [.d V0 V1,.D (-1) V2 V1,.j V0 K2] rfl U hl B) ?_
  .obtain⟨i,hi,rfl⟩:=List.getElem_of_mem hv
   have:=KM (L:=L) rk i (Nat.lt_of_lt_of_eq hi hl)
   rw[aB,aA hi]at this;exact⟨_,this⟩
  .refine Ao (Kl (kk:=λi=>key (L.getD i .none)) (n:=L.length) (lin [vs.length,L.length] [] (.b K2 V1) [.d V0 V1,.j V0 K2] rfl U B) λi j hij hi hj=>key_ne nd hij hi hj) λp1 p2=>?_
   rw[U];refine GQ (lin [vs.length,L.length] [] (.c K0 V1) [.d V0 V1,.j V0 K2] rfl U B) (λi hi=>KM rk i hi) (fin _ (I7 nd p1 p2))
theorem ET.sorted{x:E}{i:Nat}{fa:Addr}{kf:Nat}{key:AV->Ag}(hg:Glob S i (.ref fa))(hb:Glob S 10 (.builtin "sorted"))(hk:kf+2<=F.k)
  (h:ET F m V x (λa Aa=>∃L,dl Aa a=some L/\KeyT S kf (.ref fa) key L/\L.length<64/\(L.map key).Nodup/\∀L',L'.Perm L->L'.Pairwise (λx y=>AM (key x) (key y)=true)->Fresh Aa (.list L') (.list L') Q) X):ET F m V (.sorted x (.g i)) Q X:=by
 intro pe hc s hs;obtain⟨a,f,kp,p,q,x,key',rfl,rfl,rfl,T,U,ha,hf⟩:=hc.inv;refine X2lp f (CE.inv hf) λf' u hx=>?_;have B:IsG F.sc "sorted" 10:=⟨by decide +kernel,T,by decide +kernel⟩
 show wpAny _ _ (do callWith p (<- eval (.Name "sorted" q) F.env) [] (backTo p (fh [a] F.env)) (backToKw p (keywordEach [⟨some "key",.Name f' u,kp⟩] F.env))) _ _ _
 refine ac (Dj B hb hs ?_);refine callWith_of (P:=λh=>∀b o,S.g.get? b=some o->h.get? b=some o) ?_ (Callable.builtin (S:=S) _) ?_
 .rw[AQ U];rfl
 refine evalArgs_kw2 rfl ?_ (AQ U);refine wpAny_items_cons (W.out (h _ ha s hs) ?_) (AQ U);intro v V' s' st O z;obtain⟨av,ra,L,hd,Y,d,nd,hQ⟩:=z;refine args_nil ?_;refine kwAll_cons (Dj hx hg O (kwAll_nil ?_));refine X3lpp v (ra.lst O.inv hd) λl vs n e rl=>?_;exact⟨O.inv.keep,(GK hk Y d nd (λx=>ksk_t1 fa x) O e rl hQ).later st⟩
end
end
section
open PySem PySem.W PySem.Calls PyProof.Rows
section
variable {prog:dz}{w:World}{A:cD}{E:Value->af->Prop}{s:af}
theorem tup_lt{x y:Addr}{p q:Ag}{t u Y d:Tok}{n k:Nat}{P:Fin->af->Prop}(O:s.heap.get? x=some (By #[.int p.1 t,.int p.2 u] n))(z:s.heap.get? y=some (By #[.int q.1 Y,.int q.2 d] k))
  (h:P (.done (.ret (.bool (AM p q)))) s):wpAny (model prog w) A (eT.«tuple.__lt__» ⟨[.ref x,.ref y],[]⟩) P E s:=by
 show wpAny _ _ (isInstance (.ref y) (.type "tuple") >>= _) _ _ s;refine ac (fJ (T := "tuple") ⟨_,z,rfl⟩ isSubtype_tuple_tuple ?_);simp only[gO,cg,if_false];refine ac (wpAny_tupleItemsOf O rfl ?_);refine ac (wpAny_tupleItemsOf z rfl ?_);refine ac ?_;show wpAny _ _ (forIn [(hR p.1 t,hR q.1 Y),(hR p.2 u,hR q.2 d)] _ _) _ _ s;rw[ej];refine ac (ac (fP ?_));unfold AM at h
 by_cases e:p.1=q.1
 .rw[if_pos e]at h
  rw[show (p.1 == q.1)=true from beq_iff_eq.mpr e]
  refine ah ?_;show wpAny _ _ (forIn [(hR p.2 u,hR q.2 d)] _ _) _ _ s;rw[ej];refine ac (ac (fP ?_))
  by_cases B:p.2=q.2
  .rw[show (p.2 == q.2)=true from beq_iff_eq.mpr B]
   refine ah ?_;refine ah ?_;rw[B,decide_eq_false (Int.lt_irrefl _)]at h;exact ah h
  .rw[show (p.2 == q.2)=false from beq_eq_false_iff_ne.mpr B]
   refine ac (wpAny_rule (ac (lt_int ?_)));exact ah (ah (ah h))
 .rw[if_neg e]at h
  rw[show (p.1 == q.1)=false from beq_eq_false_iff_ne.mpr e]
  refine ac (wpAny_rule (ac (lt_int ?_)));exact ah (ah (ah h))
end
section
variable {S:Sta}{F:Fx S}{m:Nat->Option AV}{V:Store}{X:Value->af->Prop}
theorem KT.ltSpot{p q:Ag}{Q:Bool->Store->Prop}(h:Q (AM p q) V):KT F m V .Lt (sp p) (sp q) Q X:=by
 intro U B s hs O T;refine X4lpp U (Rep.spot O) λx t u n e Z=>?_;refine X4lpp B (Rep.spot T) λy t' z k d Z=>?_;have Y:F.A.units<cLine:=by have:=F.room.un;unfold cLine;exact lin [F.A.units,F.k] [] (.c V0 Hv) [.c (.A V0 (.M 20 V1)) B7] rfl this
 exact wpAny_richCompare_same_room (op:=.Lt) ⟨_,e,rfl⟩ ⟨_,d,rfl⟩ PySem.F.slot_tuple_lt
  (dr PySem.F.slot_tuple_lt ⟨_,e,rfl⟩ PySem.F.entry_tuple_lt (tup_lt e d ⟨_,rfl,(λe=>nomatch e),V,Step.refl _ _ _ _,hs,_,rfl,h⟩) (PySem.F.args_tuple_lt_2 _ _)) Y
end
end
section
variable {S:Sta}
section
variable {F:Fx S}{m:Vars}{V:Store}{X:Value->af->Prop}{Q:AV->Store->Prop}
theorem CT.get{k:Ag}{b:AV}{l:List (Ag×AV)}(hb:dd V b=some l)(h:Q ((Cn l k).getD .none) V):CT F m V (.builtin "dict.get") [b,sp k] Q X:=by
 intro U s hs r;refine X2lpp U r.two λB Y z ra=>?_;refine X4lpp Y ra.spot λt tx ty n e d=>?_;refine X3lpppp B (z.dct hs.inv hb) λad es n' e' y nd O=>?_;refine X1pp (RepD.xs (S:=S) O) λxs u Z0=>?_;clear O;subst Z0;have q:=u.at_ k;have T:=Hn u nd e';refine call_meetsIn PySem.F.slot_dict_get T.typeIs PySem.F.entry_dict_get (PySem.F.args_dict_get_2 _ _) (meetsH_dict_get _ ad t y) ⟨CA F,key k,xs,G7 e,T,?_⟩;refine⟨V,Step.toks _ _ _ _ _,hs.tok _,_,?_,h⟩
 revert q
 cases Cn l k with
 |none =>
  cases atKey xs (key k)with|none=>intro _;exact .none|some p=>intro q;exact q.elim
 |some av =>
  cases atKey xs (key k)with|none=>intro q;exact q.elim|some p=>intro q;exact q
theorem meth_get:Meth "get" (Ty.name .dict) "dict.get":=⟨PySem.F.plainAttrs_dict,PySem.F.slot_dict_get,PySem.F.type_dict_get⟩
noncomputable def Jo(l:List AV)(k:Nat)(x:AV):List AV:=l.take k++x::l.drop k
theorem CT.insert{ad:Addr}{ii:Nat}{i:Int}{l:List AV}{x:AV}(ho:V ad=some (.list l))(hz:l.length<=big)(h0:0<=i)(hk:i.toNat<=l.length)(h:Q .none (V.set ad (.list (Jo l i.toNat x)))):CT F m V (.builtin "list.insert") [.loc ad ii,.int i,x] Q X:=by
 intro d s hs r;obtain⟨v,r1,rfl,B,r⟩:=r.inv;obtain⟨u,y,rfl,ru,rx⟩:=r.two;refine X3ppp (B.lst hs.inv (BS ho)) λad' vs n Z0 e U=>?_;clear r;subst Z0;obtain rfl:=(bG B.inv).symm;refine X1l u ru.inv λtk=>?_;have O:¬(!Builtin.List.listFitsIndex i)=true:=by
  unfold Builtin.List.listFitsIndex;have Y:(-(2 ^ 63:Int)<=i):=dh (by decide) h0
  have h2:(i<2 ^ 63):=eX (show i<=1000000 by have:i.toNat<=1000000:=aw hk hz;exact lin [i.toNat] [i] (.f V0 Ay) [.b V0 Ay,.f V0 (.c V0)] rfl this (aI i)) (by decide)
  rw[decide_eq_true Y,decide_eq_true h2];decide
 have T:vs.toArray.size<=gT:=by rw[aF,U.length];exact Bk hz
 refine call_meets gQ ⟨_,e,rfl⟩ PySem.F.entry_list_insert (PySem.F.args_list_insert_3 _ _ _) (PySem.AutoListH.list_insert_list_int_val_1 ad vs.toArray n i tk y O T) ⟨e,?_⟩;have z:bq (λxs:Array Value=>have j:=if i<0 then (i+((xs.size:Nat):Int)).toNat else min i.toNat xs.size;(xs.extract 0 j).push y++xs.extract j) (AH vs.toArray n)=AH (vs.take i.toNat++y::vs.drop i.toNat).toArray (if ((vs.take i.toNat++y::vs.drop i.toNat).toArray.size == vs.toArray.size) then n else n+1):=by
  have hj:(if i<0 then (i+((vs.toArray.size:Nat):Int)).toNat else min i.toNat vs.toArray.size)=i.toNat:=by
   rw[if_neg (fH.mpr h0),aF,U.length];exact Nat.min_eq_left hk
  have ee:(vs.toArray.extract 0 i.toNat).push y++vs.toArray.extract i.toNat=(vs.take i.toNat++y::vs.drop i.toNat).toArray:=by
   simp
   rw[<- List.length_drop,hS]
  simp only[bq,hj,ee]
 have e':=bM (bq λxs:Array Value=>have j:=if i<0 then (i+((xs.size:Nat):Int)).toNat else min i.toNat xs.size;(xs.extract 0 j).push y++xs.extract j) e (by rw[z];rfl)
 rw[z]at e';refine Ao (Dw (s':=s) (l':=Jo l i.toNat x) hs ho (bK ..).extBut e' ((U.take _).app (.cons rx (U.drop _)))) λY st=>?_;exact⟨_,st,Y,_,.none,h⟩
theorem GX:Meth "insert" (Ty.name .list) "list.insert":=⟨dP,gQ,PySem.F.type_list_insert⟩
end
end
section
variable {S:Sta}
section
variable {A:cD}{E:Value->af->Prop}{s:af}
structure TupE(h:Heap)(es:Array aO):Prop where
 key:∀e∈es.toList,∃t,e.key=.ref t/\∃o,h.get? t=some o/\o.cls=.type "tuple"
 one:∀e∈es.toList,(es.filter (·.hash == e.hash)).size<=1
theorem TupE.push{h:Heap}{es:Array aO}(k:TupE h es)(o:Obj):TupE (h.push o) es :=
 ⟨λe O=>by refine X1pp (k.key e O) λt T B=>?_;refine X1pp B λu z Y=>?_;exact⟨t,T,u,au _ z,Y⟩,k.one⟩
theorem Hh{nm:String}{o:Addr}{es:Array aO}{ep:Nat}{Q:Array aO->af->Prop}(U:DictE s.heap o es ep)(k:TupE s.heap es)(h:Q es s):wpAny (model S.prog S.w) A (gc nm o) Q E s:=by
 unfold gc;refine ac (cO U rfl ?_);refine ac ?_;rw[<- gw];refine wpAny_forIn_list _ (λrest Z s'=>s'=s/\∀e∈rest,e∈es.toList) _ ?_ ?_ _ _ ⟨rfl,λZ h=>h⟩
 .intro e rest b s' u
  refine X0lp s' u λy=>?_;refine X1pp (k.key e (y e (.head _))) λt B Z0=>?_;refine X1pp Z0 λd z Y=>?_;refine ac ?_;unfold Builtin.Dict.quietEq;rw[B];dsimp only;refine ac (wpAny_specialOf (T := "tuple") ⟨d,z,Y⟩ PySem.F.slot_tuple_eq.lookup (ah ?_));rw[if_pos (by decide +kernel),if_neg (cT.mpr (k.one e (y e (.head _))))]
  exact ah ⟨rfl,λe O=>y e (.tail _ O)⟩
 .intro b s' u
  refine X0lp s' u λZ=>?_;exact ah h
theorem KD{nm:String}{d o:Addr}{es:Array aO}{ep:Nat}{Q:Unit->af->Prop}(O:d≠o)(T:(o == cL)=false)(y:DictE s.heap d #[] 0)(U:DictE s.heap o es ep)(k:TupE s.heap es)(B:es≠#[])(hz:es.size<=gT)
  (Y:∀h' n,DictE h' d es n->ie d s.heap h'->Q () { s with heap:=h' }):wpAny (model S.prog S.w) A (ig nm d o) Q E s:=by
 unfold ig;rw[if_neg (by simpa using O)]
 unfold fE;rw[if_neg (by rw[T];exact aQ)]
 refine ac (ah ?_);refine ac (cO U rfl ?_);have u:(decide (es.size<=8) && es.all λe=>(keyPart e.key).isSome)=false:=by
  cases hx:es.toList with
  |nil=>exact absurd hx (λz=>B (by rw[<- Array.toArray_toList (xs:=es),z]))
  |cons e r =>
   refine X1pp (k.key e (by rw[hx];exact .head _)) λt h1 Z=>?_
   have:(es.all λe=>(keyPart e.key).isSome)=false:=by
    rw[<- Array.all_toList,hx,List.all_cons,h1];rfl
   rw[this,Bool.and_false]
 rw[u];dsimp only;rw[if_pos (show (!false)=true from rfl)]
 refine ac (cO y rfl ?_);rw[if_pos (show (#[]:Array aO).isEmpty=true from rfl)]
 refine ac (Hh U k ?_);rw[if_pos (by simp[B])]
 refine ac (wpAny_updateDictKeysTo y rfl (ah (Y _ 1 ?_ (bK ..))) (gI hz));exact bM _ y rfl
theorem El{o:Addr}{es:Array aO}{ep:Nat}{Q:Value->af->Prop}(B:(o == cL)=false)(ho:DictE s.heap o es ep)(k:TupE s.heap es)(he:es≠#[])(hz:es.size<=gT)
  (h:∀h' n,DictE h' s.heap.objs.size es n->(∀b y,s.heap.get? b=some y->h'.get? b=some y)->Q (.ref s.heap.objs.size) { s with heap:=h' }):wpAny (model S.prog S.w) A (call (.type "dict") [.ref o]) Q E s:=by
 refine callType_codes (Q₁:=λd Ac=>d=.ref s.heap.objs.size/\Ac={ s with heap:=s.heap.push { cls:=.type "dict",data:=.dict #[] } }) PySem.F.kt_called_dict (PySem.F.kt_typeCall_dict_1 _) PySem.F.entry_dict_init (kt_code_dict_new _ ⟨rfl,rfl⟩) ?_
 intro d Ac u;refine X0ll d Ac u ?_;have T:DictE (s.heap.push { cls:=.type "dict",data:=.dict #[] }) s.heap.objs.size #[] 0:=aD _ rfl;have U:DictE (s.heap.push { cls:=.type "dict",data:=.dict #[] }) o es ep:=au _ ho;have O:s.heap.objs.size≠o:=λe=>absurd (bc ho) (by rw[e];exact Nat.lt_irrefl _)
 refine⟨T.typeIs,PySem.F.args_dict_init_2 _ _,?_⟩;unfold eT.«dict.__init__»;refine ac ?_;unfold Builtin.Dict.selfAndRest;refine ac (fB T.typeIs ?_);show wpAny _ _ (pure (s.heap.objs.size,[cE o])) _ _ _;refine ah ?_;show wpAny _ _ (hU "dict.__init__" s.heap.objs.size (.ref o) [] .none) _ _ _;unfold hU;refine ac (wpAny_typeOf U.typeIs ?_);rw[if_neg (by decide)]
 refine ac ?_;unfold Builtin.Dict.merge;refine ac ?_;unfold Builtin.Dict.readDirectly;refine ac (fJ U.typeIs isSubtype_dict_dict ?_);simp only[gO,cg,if_false];refine ac (wpAny_specialOf U.typeIs fj.lookup (ah ?_));simp only[beq_self_eq_true,if_true];refine ac (ah ?_);refine KD O B T U (k.push _) he hz λh' n z Y=>?_;show wpAny _ _ (Builtin.Dict.addKeywords s.heap.objs.size [] >>= _) _ _ _;exact ac (ah (ah ⟨rfl,h h' n z λb y e=>(Y.2 b (bO (bc e))).trans (au _ e)⟩))
end
section
variable {F:Fx S}{m:Vars}{V:Store}{X:Value->af->Prop}{Q:AV->Store->Prop}
theorem upd_dict{ad:Addr}{l l':List (Ag×AV)}{h':Heap}{es:List aO}{n:Nat}{s:af}(hs:F.St m V s)(U:V ad=some (.dict l))(k:dn ad s.heap h')(e:h'.get? ad=some (A5 es.toArray n))(u:(ad == cL)=false)(z:(l'.map (·.1)).Nodup)(r:RepD S.cv s.heap (F.D V) l' es) :
  F.St m (V.set ad (.dict l')) { s with heap:=h' }/\Step F.P F.O V s (V.set ad (.dict l')) { s with heap:=h' }:=by
 have y:Dom V ad:=by unfold Dom;rw[U];simp
 have T:Ext (F.D V) s.heap h':=Ext.of_but λb o d e=>k b o (λq=>d (.inl (q▸y))) e;obtain⟨Y,st⟩:=hs.upd (h':=h') y (λc o ne e=>k c o ne e) s.toks (o:=.dict l') (.dict e u z (r.ext T λb q=>.inl (q.imp (λq=>(A3 q).elim (λ(q:b=ad)=>by rw[q];exact y) id) id)))
 exact⟨Y,st.any⟩
theorem CT.clearD{ad:Addr}{B:Nat}{l:List (Ag×AV)}(d:V ad=some (.dict l))(hz:l.length<=big)(h:Q .none (V.set ad (.dict []))):CT F m V (.builtin "dict.clear") [.loc ad B] Q X:=by
 intro U s hs r;refine X1lp U r.one λv u=>?_;refine X3ppppp (u.dct hs.inv (CQ d)) λad' es n Z0 e z nd T=>?_;subst Z0;obtain rfl:=(bG u.inv).symm;have O:DictE s.heap ad es.toArray n:=e;refine call_meetsIn (S:=λZ R s'=>s'=s/\R (.ok (.ret .none)) { s with heap:=s.heap.update ad (Obj.mapDictKeys λZ=>#[]) }) PySem.F.slot_dict_clear O.typeIs PySem.F.entry_dict_clear (PySem.F.args_dict_clear_1 _) (.of_wp λA R s' ⟨y,h⟩=>?_) ⟨rfl,?_⟩
 .subst y
  unfold eT.«dict.clear»;refine ac ?_;unfold Builtin.Dict.noArgs;refine ac (fB O.typeIs ?_);show wpAny _ _ (pure ad) _ _ _;refine ah ?_;refine ac (cO O rfl ?_);refine ac ?_;unfold bearsInstanceDictMark;refine ac (wpAny_load O (ah ?_));refine ac (wpAny_updateDictKeys (hz:=by rw[aF,T.length];exact Bk hz) O rfl ?_)
  split
  .exact ac (wpAny_letGo (ah ⟨.none,rfl,h⟩))
  .exact ac (ah (ah ⟨.none,rfl,h⟩))
 .have y:(s.heap.update ad (Obj.mapDictKeys λZ=>#[])).get? ad=some (A5 ([]:List aO).toArray (n+1)):=bM _ e rfl
  refine Ao (upd_dict (l':=[]) hs d (bK ..).extBut y z .nil .nil) λY st=>?_;exact⟨_,st,Y,_,.none,h⟩
theorem GY:Meth "clear" (Ty.name .dict) "dict.clear":=⟨PySem.F.plainAttrs_dict,PySem.F.slot_dict_clear,PySem.F.type_dict_clear⟩
theorem FV{cv:Nat->Value}{h:Heap}{D:Addr->Prop}:∀{l:List (Ag×AV)}{es:List aO},RepD cv h D l es->(∀e∈es,∃t,e.key=.ref t/\∃o,h.get? t=some o/\o.cls=.type "tuple")/\es.map (·.hash)=l.map λp=>Bz p.1
 |[],es,r=>by rw[show es=[] from r.inv];exact⟨λZ h=>(nM h),rfl⟩
 |p::l,es,r=>by
  refine X6lpppp es r.inv λt B T n v O e d a b=>?_;refine Ao (FV b) λY z=>?_;refine⟨λx u=>?_,by rw[bQ,bQ,z]⟩
  rcases ax.mp u with rfl|u
  .exact⟨t,rfl,_,e,rfl⟩
  .exact Y x u
theorem one_hash{es:List aO}(y:(es.map (·.hash)).Nodup)(e:aO):(es.toArray.filter (·.hash == e.hash)).size<=1:=by
 have:(es.toArray.filter (·.hash == e.hash)).size=((es.map (·.hash)).filter (· == e.hash)).length:=by
  rw[List.filter_map];simp[Function.comp_def]
 rw[this,<- List.countP_eq_length_filter];exact List.nodup_iff_count.mp y e.hash
theorem CT.dictCopy{a:AV}{l:List (Ag×AV)}(ha:dd V a=some l)(hz:l.length<=big)(hl:l≠[])(hh:(l.map λp=>Bz p.1).Nodup)(h:Fresh V (.dict l) (.dict l) Q):CT F m V (.type "dict") [a] Q X:=by
 intro U s hs r;refine X1lp U r.one λv Y=>?_;refine X3lpppp v (Y.dct hs.inv ha) λad es n e u y O=>?_;refine Ao (FV O) λk1 k2=>?_;have d:es.toArray≠#[]:=λz=>hl (by
  have:=O.length
  rw[show es=[] by simpa using z]at this
  exact List.length_eq_zero_iff.mp this.symm)
 refine El u e ⟨λx B=>k1 x B,λx Z=>one_hash (by rw[k2];exact hh) x⟩ d (by rw[aF,O.length];exact Bk hz) λh' n' e' T=>?_
 exact EE (tk:=s.toks) hs T (AB _) e' y O h
end
end
section
section
variable {prog:dz}{w:World}{A:cD}{E:Value->af->Prop}{s:af}
end
section
variable {S:Sta}{F:Fx S}{m:Nat->Option AV}{V:Store}{X:Value->af->Prop}
end
end
section
variable {S:Sta}
section
variable {F:Fx S}{m:Vars}{V:Store}{X:Value->af->Prop}{Q:AV->Store->Prop}
end
end
section
variable {S:Sta}
section
variable {A:cD}{E:Value->af->Prop}{s:af}
end
section
variable {F:Fx S}{m:Vars}{V:Store}{X:Value->af->Prop}{Q:AV->Store->Prop}
end
end
section
section
variable {prog:dz}{w:World}{A:cD}{E:Value->af->Prop}{s:af}
theorem C7{y:Addr}{u:Tok}{Q:Int×Int×Nat->af->Prop}(hs:s.heap.IsSliceOf y .none .none (.int (-1) u))(h:Q (1,-1,2) s) :
  wpAny (model prog w) A (gx (.ref y) (pure (2:Int))) Q E s:=by
 refine X1ppp (id hs) λos z U T=>?_;unfold gx Builtin.Slice.sliceFields;refine ac (ac (dk z T (x:=.none) rfl (ac (dk z T (x:=.none) rfl (ac (dk z T (x:=.int (-1) u) rfl (ah ?_)))))));refine ac (slicePart_int ?_);show wpAny _ _ (if ((-1:Int) == 0)=true then _ else _) _ _ s;rw[if_neg (by decide)]
 refine ac (slicePart_none (ac (slicePart_none (ac (ah ?_)))));exact ah h
theorem F9{t z:Addr}{x y:Value}{n:Nat}{u:Tok}{Q:Value->af->Prop}(ht:IsTup s.heap t #[x,y])(hs:s.heap.IsSliceOf z .none .none (.int (-1) u))
  (h:Q (.ref s.heap.objs.size) { s with heap:=s.heap.push { cls:=.type "tuple",data:=.seq #[y,x] } }):wpAny (model prog w) A (getItem (.ref t) (.ref z)) Q E s:=by
 have T:sizeOk (.seq #[y,x]):=by show 2<=gT;decide
 refine X1ppp (id hs) λos d U Y=>?_;have B:s.TypeIs (.ref z) "slice":=⟨os,d,U⟩;unfold getItem
 try with_reducible refine bI ?_
 first|refine ac (ah ?_)|skip
 refine ac (wpAny_sequenceKey ht.typeIs (by decide) ?_)
 refine ac (dM (name:=b6 "__getitem__") ht.typeIs gy
  (dr gy ht.typeIs entry_tuple_getitem ?_ (args_tuple_getitem _ _)))
 show wpAny _ _ (Builtin.Tuple.tupleItemsOf (.ref t) >>= _) _ _ s;refine ac (tupleItemsOf_ ht ?_);refine ac (wpAny_typeOf B ?_);rw[if_pos (by decide)]
 refine ac (C7 hs ?_);show wpAny _ _ (if ((1:Int) == 0 && (-1:Int) == 1 && (2:Nat) == 2)=true then _ else _) _ _ s;rw[if_neg (by decide)]
 show wpAny _ _ (cY #[y,x] >>= _) _ _ s
 first
  |exact ac (m:=cY _) (bW (ah ⟨_,rfl,ah h⟩) T)
  |exact ac (m:=cY _) (bW (ac (ah (ah ⟨_,rfl,ah h⟩))) T)
  |exact ac (ac (m:=cY _) (bW (ah (ah ⟨_,rfl,ah h⟩)) T))
  |exact ac (ac (m:=cY _) (bW (ah ⟨_,rfl,ah h⟩) T))
end
section
variable {S:Sta}{F:Fx S}{m:Vars}{V:Store}{X:Value->af->Prop}{Q:AV->Store->Prop}
theorem tup_push{h:Heap}{t:Addr}{items:Array Value}{n:Nat}(e:h.get? t=some (By items n))(o:Obj):IsTup (h.push o) t items:=⟨_,au _ e,rfl,n,rfl⟩
theorem new_two(h:Heap)(o:Obj):h.get? (h.push o).objs.size=aa:=by
 rw[cK]
 cases q:h.get? (h.objs.size+1)with|none=>rfl|some o=>exact absurd (bc q) (cT.mpr (fU _))
theorem ET.back{o:E}(h:ET F m V o (λa Aa=>∃x y,a=.tup [x,y]/\Q (.tup [y,x]) Aa) X):ET F m V (.slice o .none .none (.neg (.int 1))) Q X:=by
 intro pe hc s hs;refine X6lpppp pe hc.inv λpo T phi U p q ho hlo hhi Y=>?_;refine Subscript_ ((h _ ho s hs).out ?_);intro va Aa Ac Ai Ad B;obtain⟨a,ra,x,y,rfl,hq⟩:=B;show wpAny _ _ (do
  let l <- valueOrNone (evalOpt T F.env)
  let u <- holding [l] (valueOrNone (evalOpt phi F.env))
  let s <- holding [l,u] (valueOrNone (evalOpt U F.env))
  newFields "slice" [l,u,s]) _ _ _
 refine ac ((optE (Q:=λv V=>v=.none/\V=Aa) (ET.none ⟨rfl,rfl⟩) hlo Ad).out ?_);intro vx Ab Aj An Ah B;obtain⟨_,rx,rfl,rfl⟩:=B;refine ac (bI ((optE (Q:=λv V=>v=.none/\V=Ab) (ET.none ⟨rfl,rfl⟩) hhi Ah).out ?_));intro vy Ar BI A0 AS B;obtain⟨_,ry,rfl,rfl⟩:=B;refine ac (bI ((optE (Q:=λv V=>v=.int (-1)/\V=Ar) (ET.neg (ET.int ⟨1,rfl,rfl,rfl⟩)) Y AS).out ?_));intro vz Cj Bv BP Br B;obtain⟨_,rz,rfl,rfl⟩:=B;obtain rfl:=rx.inv;obtain rfl:=ry.inv;refine X1l vz rz.inv λu=>?_;refine X3lppp va ((((ra.st An Ah).st A0 AS).st BP Br).inv) λt vs n e d rl=>?_;refine X2ppp rl.two λv1 v2 Z0 r1 r2=>?_;clear rl;subst Z0;obtain⟨z,rfl,hz⟩:∃z,U=some z/\CE F.tb F.sc z (.neg (.int 1)):=by
  rcases Y.inv with⟨_,e'⟩|⟨z,rfl,hz⟩
  .cases e'
  .exact⟨z,rfl,hz⟩
 refine bW ?_ (by size_fits)
 have ht:=tup_push e { cls:=.type "slice",data:=.fields #[.none,.none,.int (-1) u] };refine tail_any (ops:=[.ref t,.ref Bv.heap.objs.size]) ht.typeIs gy.lookup (F9 (n:=n) ht (Heap.IsSliceOf.new ..) ?_) rfl;refine Ao (Br.grow (h':=(Bv.heap.push { cls:=.type "slice",data:=.fields #[.none,.none,.int (-1) u] }).push { cls:=.type "tuple",data:=.seq #[v2,v1] }) (λb o e=>au _ (au _ e)) Bv.toks) λh5 O=>?_;refine⟨Cj,(((Ai.trans An).trans A0).trans BP).trans O.any,h5,_,.tup (vs:=[v2,v1]) (aD _ rfl) (λdd=>?_) (.cons (r2.st O.any h5) (.cons (r1.st O.any h5) .nil)),hq⟩;exact Br.inv.not_D (new_two _ _) dd
end
end
section
set_option genCtorIdx false in
inductive Sh where
 |val (v:AV)
 |new (j:Nat)
 |tup (l:List Sh)
 |list (l:List Sh)
noncomputable abbrev Sh.ctorIdx(x:Sh):Nat:=@Sh.casesOn (λ_=>Nat) x (λ_=>0) (λ_=>1) (λ_=>2) (λ_=>3)
structure RT where
 os:List AObj
 sh:Sh
abbrev KR:=RT->LS->Prop
set_option genCtorIdx false in
inductive Rs where
 |val
 |new
 |tup (l:List Rs)
 |list (l:List Rs)
noncomputable abbrev Rs.ctorIdx(x:Rs):Nat:=@Rs.casesOn (λ_=>Nat) x 0 1 (λ_=>2) (λ_=>3)
structure FS where
 pure:List AV->Option AV
 spec:List AV->LS->KR->XL->Prop
 whole:Bool
structure Tab where
 q:Bool
 ex:List Nat
 fn:List (Nat×FS)
 me:List (Nat×FS)
 ky:List (Nat×(AV->Option Ag)):=[]
noncomputable def GE{α:Type}:List (Nat×α)->Nat->Option α
 |[],_=>aa
 |(j,x)::r,i=>match bV i j with
  |true=>some x
  |false=>GE r i
noncomputable def frz:AObj->AV
 |.list l=>.list l
 |.dict l=>.dict l
 |_=>.none
mutual
noncomputable def Sh.with(f:Nat->AV):Sh->AV
 |.val v=>v
 |.new j=>f j
 |.tup l=>.tup (Sh.withL f l)
 |.list l=>.list (Sh.withL f l)
noncomputable def Sh.withL(f:Nat->AV):List Sh->List AV
 |[]=>[]
 |x::r=>Sh.with f x::Sh.withL f r
end
noncomputable def frzN:List AObj->Nat->AV
 |[],_=>.none
 |o::_,0=>frz o
 |_::r,j+1=>frzN r j
def L7:List AObj->Nat->LS->List AV->(List AV->LS->Prop)->Prop
 |[],_,V,acc,k=>k acc V
 |o::r,i,V,acc,k=>∀a,L7 r (i+1) (V.set i (.at a o)) (acc++[.loc a i]) k
def Ek(mu:Option Nat)(r:RT)(V:LS)(K:KV):Prop:=match mu with
 |aa=>K (r.sh.with (frzN r.os)) V
 |some i=>L7 r.os i V [] (λvs V'=>K (r.sh.with (λj=>vs.getD j .none)) V')
def quiet(q:Bool)(P:Prop):Prop:=match q with
 |true=>P
 |false=>False
def frW(mu:Option Nat)(o:AObj)(fz:AV)(V:LS)(K:KV):Prop:=match mu with
 |aa=>K fz V
 |some i=>∀a,K (.loc a i) (V.set i (.at a o))
def cnd(lit:Bool)(P R:Prop):Prop:=match lit with
 |true=>R
 |false=>P/\R
def ifW(b:Bool)(A B:Prop):Prop:=match b with
 |true=>A
 |false=>B
def boolW(a:AV)(K:Bool->Prop):Prop:=match a with
 |.bool b=>K b
 |_=>False
def dlW(V:LS)(v:AV)(K:List AV->Prop):Prop:=match v with
 |.list l=>K l
 |.loc a i=>(match slot V i with
  |.at b (.list l)=>b=a/\K l
  |_=>False)
 |_=>False
def ddW(V:LS)(v:AV)(K:List (Ag×AV)->Prop):Prop:=match v with
 |.dict l=>K l
 |.loc a i=>(match slot V i with
  |.at b (.dict l)=>b=a/\K l
  |_=>False)
 |_=>False
def spotW(a:AV)(K:Ag->Prop):Prop:=match spot? a with
 |some k=>K k
 |aa=>False
def vwW(V:LS)(v:AV)(K:AV->Prop):Prop:=match v with
 |.loc a i=>(match slot V i with
  |.at b (.list l)=>b=a/\K (.list l)
  |.at b (.dict l)=>b=a/\K (.dict l)
  |_=>False)
 |v=>K v
noncomputable def E.nat?:E->Option Nat
 |.int i=>(match i with
  |.ofNat n=>some n
  |.negSucc _=>aa)
 |_=>aa
noncomputable def lit(e:E):Bool:=match e.nat? with
 |some n=>(match n with
  |0=>false
  |n+1=>gE n 1000000)
 |aa=>false
noncomputable def lit0(e:E):Bool:=match e.nat? with
 |some n=>gE n 1000000
 |aa=>false
def addW(mu:Option Nat)(a b:AV)(V:LS)(K:KV):Prop:=match a with
 |.int x=>(match b with
  |.int y=>K (.int (x+y)) V
  |_=>False)
 |.str x=>(match b with
  |.str y=>x.length+y.length<=big/\K (.str (x++y)) V
  |_=>False)
 |a=>dlW V a λl=>dlW V b λk=>l.length+k.length<=big/\frW mu (.list (l++k)) (.list (l++k)) V K
def mulW(mu:Option Nat)(a b:AV)(V:LS)(K:KV):Prop:=match b with
 |.int y=>(match a with
  |.int x=>IntMulOk x y/\K (.int (x * y)) V
  |.str x=>MulOk x y/\K (.str (d3 x y)) V
  |_=>False)
 |_=>False
def int2(a b:AV)(K:Int->Int->Prop):Prop:=match a with
 |.int x=>(match b with
  |.int y=>K x y
  |_=>False)
 |_=>False
def binW(li:Bool)(mu:Option Nat)(op:gR)(a b:AV)(V:LS)(K:KV):Prop:=match op with
 |.Add=>addW mu a b V K
 |.Sub=>int2 a b λx y=>K (.int (x - y)) V
 |.Mult=>mulW mu a b V K
 |.Mod=>int2 a b λx y=>cnd li (y≠0) (K (.int (x.fmod y)) V)
 |.FloorDiv=>int2 a b λx y=>cnd li (y≠0/\y.natAbs<1073741824) (K (.int (x.fdiv y)) V)
 |_=>False
def EqP0(a b:AV)(t:Bool):Prop:=∃da db,GC a=some da/\GC b=some db/\dF da=true/\dF db=true/\eV da db=t
inductive EqP(a b:AV)(t:Bool):Prop
 |py (h:EqP0 a b t):EqP a b t
def InP(a b:AV)(t:Bool):Prop:=∃d xs,GC a=some d/\(GC b=some (.list xs)\/GC b=some (.tuple xs))/\cB xs=true/\d.canLay0=true/\d.depth<=100/\(xs.any λy=>eV y d)=t
def eqW(a b:AV)(V:LS)(K:Bool->Prop):Prop:=match a with
 |.int x=>(match b with
  |.int y=>K (x == y)
  |b=>vwW V b λb'=>∃t,EqP (.int x) b' t/\K t)
 |a=>vwW V a λa'=>vwW V b λb'=>∃t,EqP a' b' t/\K t
def InV(V:LS)(a b:AV)(t:Bool):Prop:=match b with
 |.dict l=>spotW a λk=>(Cn l k).isSome=t
 |.str x=>(match a with
  |.str y=>eI x y=t
  |_=>False)
 |.loc ad i=>(match slot V i with
  |.at b' (.dict l)=>b'=ad/\spotW a λk=>(Cn l k).isSome=t
  |.at b' (.list l)=>b'=ad/\InP a (.list l) t
  |_=>False)
 |b=>InP a b t
def inW(a b:AV)(V:LS)(K:Bool->Prop):Prop:=∃t,InV V a b t/\K t
def isW(a b:AV)(K:Bool->Prop):Prop:=match b with
 |.none=>(match a with
  |.none=>K true
  |.cls _=>False
  |_=>K false)
 |.bool c=>(match a with
  |.bool b=>K (b == c)
  |_=>False)
 |_=>False
def ltW(a b:AV)(K:Bool->Prop):Prop:=match a with
 |.tup l=>spotW (.tup l) λp=>spotW b λq=>K (AM p q)
 |a=>int2 a b λx y=>K (decide (x<y))
def cmpW(op:CmpOp)(a b:AV)(V:LS)(K:Bool->Prop):Prop:=match op with
 |.Eq=>eqW a b V K
 |.NotEq=>eqW a b V λt=>K (!t)
 |.Lt=>ltW a b K
 |.LtE=>int2 a b λx y=>K (decide (x<=y))
 |.Gt=>int2 a b λx y=>K (decide (y<x))
 |.In=>inW a b V K
 |.NotIn=>inW a b V λt=>K (!t)
 |.Is=>isW a b K
 |.IsNot=>isW a b λt=>K (!t)
 |_=>False
def idxW(li:Bool)(i:AV)(K:Nat->Prop):Prop:=match i with
 |.int k=>cnd li (0<=k/\k<1000000) (K k.toNat)
 |_=>False
def subW(li:Bool)(a i:AV)(V:LS)(K:KV):Prop:=match a with
 |.tup l=>idxW li i λn=>(match l[n]? with
  |some x=>K x V
  |aa=>False)
 |.str x=>idxW li i λn=>∃c,x.cps[n]?=some c/\K (.str ⟨#[c]⟩) V
 |.nums l=>idxW li i λn=>∃x,l[n]?=some x/\K (.int x) V
 |.list l=>idxW li i λn=>∃x,l[n]?=some x/\K x V
 |.dict l=>spotW i λk=>∃x,Cn l k=some x/\K x V
 |.loc ad j=>(match slot V j with
  |.at b (.list l)=>b=ad/\idxW li i λn=>∃x,l[n]?=some x/\K x V
  |.at b (.dict l)=>b=ad/\spotW i λk=>∃x,Cn l k=some x/\K x V
  |_=>False)
 |_=>False
noncomputable def HV(lo hi st:E):Bool:=match lo with
 |.none=>(match hi with
  |.none=>(match st with
   |.neg x=>(match x.nat? with
    |some n=>bV n 1
    |aa=>false)
   |_=>false)
  |_=>false)
 |_=>false
def backW(a:AV)(V:LS)(K:KV):Prop:=match a with
 |.tup l=>(match two? l with
  |some p=>K (.tup [p.2,p.1]) V
  |aa=>False)
 |_=>False
noncomputable abbrev FJ(t o:AV):List (Str×AV):=[("texts",t),("own",o)]
noncomputable def Slot.obj?:Slot->Option (Addr×AObj)
 |.at a o=>some (a,o)
 |.no=>aa
noncomputable def fields?(V:LS)(i:Nat):Option ((Addr×Addr)×Addr×List (Str×AV)):=(slot V i).obj?.bind λb=>b.2.inst?.bind λd=>(slot V (i+1)).obj?.bind λc=>c.2.attrs?.bind λl=>some ((b.1,d),c.1,l)
def instW(V:LS)(a:AV)(K:AV->AV->Prop):Prop:=match a with
 |.inst l=>(match two? l with
  |some p=>(p.1.1 = "texts"/\p.2.1 = "own")/\K p.1.2 p.2.2
  |aa=>False)
 |.loc x i=>(match fields? V i with
  |some f=>(match two? f.2.2 with
   |some p=>(f.1.1=x/\f.2.1=f.1.2/\p.1.1 = "texts"/\p.2.1 = "own")/\K p.1.2 p.2.2
   |aa=>False)
  |aa=>False)
 |_=>False
def attrW(n:Nat)(a:AV)(V:LS)(K:KV):Prop:=instW V a λt o=>match n with
 |11=>noCls t=true/\K t V
 |12=>noCls o=true/\K o V
 |_=>False
noncomputable def tyW(V:LS):AV->Option Ty
 |.none=>some .none
 |.bool _=>some .bool
 |.int _=>some .int
 |.str _=>some .str
 |.tup _=>some .tup
 |.list _=>some .list
 |.dict _=>some .dict
 |.loc _ i=>(match slot V i with
  |.at _ (.list _)=>some .list
  |.at _ (.dict _)=>some .dict
  |_=>aa)
 |_=>aa
def atW(V:LS)(a:AV)(P:Prop):Prop:=match a with
 |.loc x i=>(match slot V i with
  |.at b _=>b=x/\P
  |.no=>False)
 |_=>P
def lenW(a:AV)(V:LS)(K:KV):Prop:=match a with
 |.str x=>x.length<=big/\K (.int x.length) V
 |.tup l=>l.length<=big/\K (.int l.length) V
 |.nums l=>l.length<=big/\K (.int l.length) V
 |.list l=>l.length<=big/\K (.int l.length) V
 |.dict l=>l.length<=big/\K (.int l.length) V
 |.loc ad i=>(match slot V i with
  |.at b (.list l)=>b=ad/\l.length<=big/\K (.int l.length) V
  |.at b (.dict l)=>b=ad/\l.length<=big/\K (.int l.length) V
  |_=>False)
 |_=>False
noncomputable def isi?(V:LS)(a:AV)(j:Nat):Option Bool:=(tyW V a).bind λt=>(tyCls j).bind λu=>some (isT t u)
def isiW(ex:List Nat)(a c:AV)(V:LS)(K:KV):Prop:=match c with
 |.cls j=>(match a with
  |.exc c=>(match ex.contains c && ex.contains j && fq 18 c && fq c 27 && fq 17 j && fq j 27 with
   |true=>K (.bool (xsub c j)) V
   |false=>False)
  |a=>atW V a (match isi? V a j with
   |some b=>K (.bool b) V
   |aa=>False))
 |_=>False
def listW(q:Bool)(mu:Option Nat)(a:AV)(V:LS)(K:KV):Prop:=match a with
 |.tup l=>l.length<=big/\frW mu (.list l) (.list l) V K
 |.list l=>l.length<=big/\frW mu (.list l) (.list l) V K
 |.dict l=>quiet q (l.length<=big/\frW mu (.list (l.map λp=>sp p.1)) (.list (l.map λp=>sp p.1)) V K)
 |.loc ad i=>(match slot V i with
  |.at b (.list l)=>b=ad/\l.length<=big/\frW mu (.list l) (.list l) V K
  |.at b (.dict l)=>b=ad/\quiet q (l.length<=big/\frW mu (.list (l.map λp=>sp p.1)) (.list (l.map λp=>sp p.1)) V K)
  |_=>False)
 |_=>False
noncomputable def ints?:List AV->Option (List Int)
 |[]=>some []
 |a::r=>a.int?.bind λx=>(ints? r).bind λl=>some (x::l)
def rngW(V:LS)(K:KV):List Int->Prop
 |[]=>False
 |a::r=>(match r with
  |[]=>K (.range 0 a 1) V
  |b::r=>(match r with
   |[]=>K (.range a b 1) V
   |c::r=>(match r with
    |[]=>c≠0/\c.natAbs<1073741824/\K (.range a b c) V
    |_::_=>False)))
def Kg(avs:List AV)(V:LS)(K:KV):Prop:=match ints? avs with
 |some l=>rngW V K l
 |aa=>False
def buW(q:Bool)(ex:List Nat)(mu:Option Nat)(i:Nat)(avs:List AV)(V:LS)(K:KV):Prop:=match i with
 |0=>(match avs with
  |[a]=>lenW a V K
  |_=>False)
 |1=>(match avs with
  |[a,c]=>isiW ex a c V K
  |_=>False)
 |5=>(match avs with
  |[a]=>listW q mu a V K
  |_=>False)
 |7=>(match avs with
  |[a]=>(ddW V a λl=>(l.length<=big/\l≠[]/\(l.map λp=>Bz p.1).Nodup)/\frW mu (.dict l) (.dict l) V K)\/False
  |_=>False)
 |8=>Kg avs V K
 |11=>(match avs with
  |[a]=>quiet q (spotW a λp=>(p.1.natAbs<=1000000/\p.2.natAbs<=1000000)/\K (.int (p.1+p.2)) V)
  |_=>False)
 |12=>(match avs with
  |[a]=>(match a with
   |.int x=>K (.int x.natAbs) V
   |_=>False)
  |_=>False)
 |13=>(match avs with
  |[a,b]=>quiet q (int2 a b λx y=>K (.int (min x y)) V)
  |_=>False)
 |14=>(match avs with
  |[a,b]=>quiet q (int2 a b λx y=>K (.int (max x y)) V)
  |_=>False)
 |15=>(match avs with
  |[a]=>quiet q (dlW V a λl=>∃bs:List Bool,l=bs.map .bool/\K (.bool (bs.all id)) V)
  |_=>False)
 |16=>(match avs with
  |[a]=>quiet q (dlW V a λl=>∃bs:List Bool,l=bs.map .bool/\K (.bool (bs.any id)) V)
  |_=>False)
 |_=>False
noncomputable def A1:List AV->Nat->List AV
 |[],_=>[]
 |x::r,n=>(match x with
  |.loc a _=>.loc a n::A1 r (n+1)
  |x=>x::A1 r n)
noncomputable def AF:List AV->List Nat
 |[]=>[]
 |x::r=>(match x with
  |.loc _ i=>i::AF r
  |_=>AF r)
noncomputable def Ez:List Nat->Bool
 |[]=>true
 |i::r=>!(r.any (bV i)) && Ez r
noncomputable def wb(V:LS):List Nat->LS->LS
 |[],_=>V
 |i::r,s::t=>wb (V.set i s) r t
 |i::r,[]=>wb (V.set i .no) r []
def ownW(f:FS)(mu:Option Nat)(avs:List AV)(V:LS)(K:KV)(X:XL):Prop:=match f.pure avs with
 |some v=>K v V
 |aa=>(match f.whole with
  |true=>f.spec avs V (λr V'=>Ek mu r V' K) X
  |false=>(match Ez (AF avs)with
   |true=>f.spec (A1 avs 0) ((AF avs).map (slot V)) (λr V'=>Ek mu r (wb V (AF avs) V') K) (λc V'=>X c (wb V (AF avs) V'))
   |false=>False))
def callW(Φ:Tab)(X:XL)(mu:Option Nat)(i:Nat)(avs:List AV)(V:LS)(K:KV):Prop:=match gE i 17 with
 |true=>buW Φ.q Φ.ex mu i avs V K
 |false=>(match GE Φ.fn i with
  |some f=>ownW f mu avs V K X
  |aa=>False)
def slotL(V:LS)(a:AV)(K:Addr->Nat->List AV->Prop):Prop:=match a with
 |.loc x i=>(match slot V i with
  |.at b (.list l)=>b=x/\K x i l
  |_=>False)
 |_=>False
def slotC(V:LS)(a:AV)(K:Addr->Nat->List AV->Prop)(K':Addr->Nat->List (Ag×AV)->Prop):Prop:=match a with
 |.loc x i=>(match slot V i with
  |.at b (.list l)=>b=x/\K b i l
  |.at b (.dict l)=>b=x/\K' b i l
  |_=>False)
 |_=>False
def methW(n:Nat)(a:AV)(avs:List AV)(V:LS)(K:KV):Prop:=match n with
 |0=>(match avs with
  |[x]=>slotL V a λad i l=>l.length<=big/\K .none (V.set i (.at ad (.list (l++[x]))))
  |_=>False)
 |1=>(match avs with
  |[]=>slotL V a λad i l=>l.length<=big/\∃x,l.getLast?=some x/\K x (V.set i (.at ad (.list l.dropLast)))
  |_=>False)
 |2=>(match avs with
  |[i,x]=>slotL V a λad j l=>(match i with
   |.int z=>(0<=z/\z.toNat<=l.length)/\l.length<=big/\K .none (V.set j (.at ad (.list (Jo l z.toNat x))))
   |_=>False)
  |_=>False)
 |6=>(match avs with
  |[k]=>ddW V a λl=>spotW k λkk=>K ((Cn l kk).getD .none) V
  |_=>False)
 |_=>(match a with
  |.str x=>(match avs with
   |[b]=>dlW V b λl=>∃ys:List Str,l=ys.map .str/\(ys.map (·.length)).sum+ys.length * x.length<=1000000/\K (.str (Txt.join x ys)) V
   |_=>False)
  |_=>False)
def objW(n:Nat)(a:AV)(V:LS)(P:Prop):Prop:=match n with
 |6=>ddW V a λZ=>P
 |8=>(match a with
  |.str _=>P
  |_=>False)
 |_=>slotL V a λZ Z Z=>P
noncomputable def hasF(Φ:Tab)(i:Nat):Bool:=gE i 17 || (GE Φ.fn i).isSome
noncomputable def isMe:Nat->Bool
 |0|1|2|3|6|8=>true
 |_=>false
noncomputable def Du(f:AV->Option Ag)(x:AV):Ag:=match f x with
 |some p=>p
 |aa=>(0,0)
def Sorts(f:AV->Option Ag)(L L':List AV):Prop:=L'.Perm L/\L'.Pairwise (λx y=>AM (Du f x) (Du f y)=true)
def sortW(f:AV->Option Ag)(mu:Option Nat)(L:List AV)(V:LS)(K:KV):Prop :=
 ((∀x∈L,(f x).isSome=true)/\L.length<64/\(L.map (Du f)).Nodup)/\∀L',Sorts f L L'->frW mu (.list L') (.list L') V K
abbrev KG:=List AV->Option Nat->LS->Prop
def iterW(q:Bool)(a:AV)(V:LS)(G:KG):Prop:=match a with
 |.tup l=>quiet q (G l aa V)
 |.list l=>quiet q (G l aa V)
 |.str x=>quiet q (x.cps.all (·<128)=true/\G (C8 x) aa V)
 |.dict l=>quiet q (G (l.map λp=>sp p.1) aa V)
 |.range a b c=>cu a b c=true/\G (AW a c (Bb a b c)) aa V
 |.loc x i=>(match slot V i with
  |.at b (.list l)=>b=x/\quiet q (G l (some i) V)
  |_=>False)
 |_=>False
def enumW(q:Bool)(a:AV)(V:LS)(G:KG):Prop:=match a with
 |.str x=>quiet q (x.cps.all (·<128)=true/\G (Cu (C8 x)) aa V)
 |.list l=>quiet q (G (Cu l) aa V)
 |.loc x i=>(match slot V i with
  |.at b (.list l)=>b=x/\quiet q (G (Cu l) (some i) V)
  |_=>False)
 |_=>False
def stays(ok:Option Nat)(V V':LS)(P:Prop):Prop:=match ok with
 |aa=>P
 |some i=>slot V' i=slot V i/\P
mutual
def patW(q:Bool):Pat->AV->M->(M->Prop)->Prop
 |.v i,a,m,K=>K (E9 m i a)
 |.tup ps,a,m,K=>quiet q (match a with
  |.tup l=>(match bV ps.length l.length with
   |true=>patsW q ps l m K
   |false=>False)
  |.list l=>(match bV ps.length l.length with
   |true=>patsW q ps l m K
   |false=>False)
  |_=>False)
def patsW(q:Bool):List Pat->List AV->M->(M->Prop)->Prop
 |[],[],m,K=>K m
 |p::ps,a::as,m,K=>patW q p a m (λAq=>patsW q ps as Aq K)
 |_,_,_,_=>False
end
noncomputable def kSeq(f:M->LS->KS->Prop)(K:KS):KS:=λfl m V=>match fl with
 |.next=>f m V K
 |.ret v=>K (.ret v) m V
noncomputable def G4(ok:Option Nat)(V:LS)(C:M->LS->Prop)(K:KS):KS:=λfl m Ab=>match fl with
 |.next=>stays ok V Ab (C m Ab)
 |.ret v=>K (.ret v) m Ab
noncomputable def kWh(n:Nat)(I:Nat->M->LS->Prop)(K:KS):KS:=λfl m V=>match fl with
 |.next=>∃n',n'<n/\I n' m V
 |.ret v=>K (.ret v) m V
set_option tactic.hygienic true in
def Jq(q:Bool)(p:Pat)(body:M->LS->KS->Prop)(ok:Option Nat)(K:KS):List AV->M->LS->Prop
 |[],m,V=>K .next m V
 |x::r,m,V=>patW q p x m (λAq=>body Aq V (G4 ok V (Jq q p body ok K r) K))
def D7(i:Nat)(elt:M->LS->KV->Prop)(tst:M->LS->KB->Prop)(ok:Option Nat)(m:M)(K:List AV->LS->Prop):List AV->List AV->LS->Prop
 |[],ys,V=>K ys V
 |x::r,ys,V=>tst (E9 m i x) V (λb Aa=>ifW b (elt (E9 m i x) Aa (λy Ab=>stays ok V Ab (D7 i elt tst ok m K r (ys++[y]) Ab)))
  (stays ok V Aa (D7 i elt tst ok m K r ys Aa)))
structure WT where
 v:Option Nat->M->LS->KV->Prop
 t:M->LS->KB->Prop
noncomputable def vt(f:Option Nat->M->LS->KV->Prop):WT:=⟨f,λm V K=>f aa m V (λa V'=>boolW a λb=>K b V')⟩
def I2:List WT->M->LS->(List AV->LS->Prop)->Prop
 |[],_,V,K=>K [] V
 |f::r,m,V,K=>f.v aa m V (λa Aa=>I2 r m Aa (λl Ab=>K (a::l) Ab))
def andT:List WT->M->LS->KB->Prop
 |[],_,V,K=>K true V
 |f::r,m,V,K=>f.t m V (λb Aa=>ifW b (andT r m Aa K) (K false Aa))
def orT:List WT->M->LS->KB->Prop
 |[],_,V,K=>K false V
 |f::r,m,V,K=>f.t m V (λb Aa=>ifW b (K true Aa) (orT r m Aa K))
def andV:List WT->M->LS->KV->Prop
 |[],_,_,_=>False
 |f::r,m,V,K=>(match r with
  |[]=>f.v aa m V K
  |_::_=>f.v aa m V (λa Aa=>boolW a λb=>ifW b (andV r m Aa K) (K (.bool false) Aa)))
def orV:List WT->M->LS->KV->Prop
 |[],_,_,_=>False
 |f::r,m,V,K=>(match r with
  |[]=>f.v aa m V K
  |_::_=>f.v aa m V (λa Aa=>boolW a λb=>ifW b (K (.bool true) Aa) (orV r m Aa K)))
def pairW:List WT->List WT->List (AV×AV)->M->LS->(List (AV×AV)->LS->Prop)->Prop
 |[],[],r,_,V,K=>K r V
 |f::fs,g::gs,r,m,V,K=>f.v aa m V (λa Aa=>g.v aa m Aa (λb Ab=>pairW fs gs (r++[(a,b)]) m Ab K))
 |_,_,_,_,_,_=>False
def dictW(mu:Option Nat)(ps:List (AV×AV))(V:LS)(K:KV):Prop:=match fq ps.length 15 with
 |true=>(match mkD ps []with
  |some l=>frW mu (.dict l) (.dict l) V K
  |aa=>False)
 |false=>False
def few{α:Type}(l:List α)(P:Prop):Prop:=match gE l.length 15 with
 |true=>P
 |false=>False
def GF(fs:List WT)(m:M)(V:LS)(K:KB):Prop:=match fs with
 |[]=>K true V
 |[f]=>f.t m V K
 |_=>False
def gW(Φ:Tab)(i:Nat)(V:LS)(K:KV):Prop:=match bV i 28 with
 |true=>(match Φ.ex.contains 28 with
  |true=>K (.int 6) V
  |false=>False)
 |false=>(match gE i 17 || Φ.ex.contains i with
  |true=>K (.cls i) V
  |false=>False)
def slotD(V:LS)(a:AV)(K:Addr->Nat->List (Ag×AV)->Prop):Prop:=match a with
 |.loc x i=>(match slot V i with
  |.at b (.dict l)=>b=x/\K b i l
  |_=>False)
 |_=>False
def clrW(fs:List WT)(a:AV)(V:LS)(K:KV):Prop:=match fs with
 |[]=>slotC V a (λad i l=>l.length<=big/\K .none (V.set i (.at ad (.list [])))) (λad i l=>l.length<=big/\K .none (V.set i (.at ad (.dict []))))
 |_=>False
def bmW(n:Nat)(fs:List WT)(m:M)(a:AV)(V:LS)(K:KV):Prop:=match n with
 |3=>clrW fs a V K
 |n=>objW n a V (I2 fs m V (λavs Ab=>methW n a avs Ab K))
def omW(o:Option FS)(g:WT)(fs:List WT)(mu:Option Nat)(X:XL)(m:M)(V:LS)(K:KV):Prop:=match o with
 |some f=>g.v aa m V (λa Aa=>instW Aa a λZ Z=>I2 fs m Aa (λavs Ab=>instW Ab a λZ Z=>ownW f mu (a::avs) Ab K X))
 |aa=>False
mutual
noncomputable def wp(Φ:Tab):E->XL->WT
 |.none,_=>vt λZ Z V K=>K .none V
 |.bool b,_=>vt λZ Z V K=>K (.bool b) V
 |.int i,_=>vt λZ Z V K=>K (.int i) V
 |.str s,_=>vt λZ Z V K=>K (.str s) V
 |.v i,_=>vt λZ m V K=>match m.getD i aa with
  |some a=>K a V
  |aa=>False
 |.g i,_=>vt λZ Z V K=>gW Φ i V K
 |.tup es,X=>vt λZ m V K=>few es (I2 (wpL Φ es X) m V (λl V'=>K (.tup l) V'))
 |.list es,X=>vt λmu m V K=>few es (I2 (wpL Φ es X) m V (λl V'=>frW mu (.list l) (.list l) V' K))
 |.dict ks vs,_=>vt λmu m V K=>(match bV ks.length vs.length && gE ks.length 15 with
  |true=>pairW (wpL Φ ks BZ) (wpL Φ vs BZ) [] m V (λps V'=>dictW mu ps V' K)
  |false=>False)
 |.bin op l r,X=>vt λmu m V K=>(wp Φ l X).v aa m V (λa Aa=>(wp Φ r X).v aa m Aa (λb Ab=>binW (lit r) mu op a b Ab K))
 |.neg x,X=>vt λZ m V K=>(wp Φ x X).v aa m V (λa Aa=>match a with
  |.int i=>K (.int (-i)) Aa
  |_=>False)
 |.not x,X=>⟨λZ m V K=>(wp Φ x X).v aa m V (λa Aa=>boolW a λb=>K (.bool (!b)) Aa),λm V K=>(wp Φ x X).t m V (λb Aa=>K (!b) Aa)⟩
 |.and es,X=>⟨λZ m V K=>andV (wpL Φ es X) m V K,λm V K=>andT (wpL Φ es X) m V K⟩
 |.or es,X=>⟨λZ m V K=>orV (wpL Φ es X) m V K,λm V K=>orT (wpL Φ es X) m V K⟩
 |.cmp op l r,X=>⟨λZ m V K=>(wp Φ l X).v aa m V (λa Aa=>(wp Φ r X).v aa m Aa (λb Ab=>cmpW op a b Ab λt=>K (.bool t) Ab)),
   λm V K=>(wp Φ l X).v aa m V (λa Aa=>(wp Φ r X).v aa m Aa (λb Ab=>cmpW op a b Ab λt=>K t Ab))⟩
 |.cmp2 o1 o2 a b c,X=>⟨λZ Z Z Z=>False,λm V K=>(wp Φ a X).v aa m V (λx Aa=>(wp Φ b X).v aa m Aa (λy Ab=>cmpW o1 x y Ab λt=>ifW t ((wp Φ c X).v aa m Ab (λz Ar=>cmpW o2 y z Ar λt=>K t Ar)) (K false Ab)))⟩
 |.ite c a b,X=>⟨λmu m V K=>(wp Φ c X).t m V (λt Aa=>ifW t ((wp Φ a X).v mu m Aa K) ((wp Φ b X).v mu m Aa K)),λZ Z Z=>False⟩
 |.sub o i,X=>vt λZ m V K=>(wp Φ o X).v aa m V (λa Aa=>(wp Φ i X).v aa m Aa (λk Ab=>subW (lit0 i) a k Ab K))
 |.slice o lo hi st,X=>vt λZ m V K=>quiet (HV lo hi st) ((wp Φ o X).v aa m V (λa Aa=>backW a Aa K))
 |.attr (.v i) n,_=>vt λZ m V K=>match m.getD i aa with
  |some a=>attrW n a V K
  |aa=>False
 |.call (.g i) (e::es),X=>vt λmu m V K=>(match hasF Φ i with
  |true=>I2 (wpL Φ (e::es) X) m V (λavs Aa=>callW Φ X mu i avs Aa K)
  |false=>False)
 |.sorted x (.g i),X=>vt λmu m V K=>match GE Φ.ky i with
  |some f=>(wp Φ x X).v aa m V (λa Aa=>dlW Aa a λL=>sortW f mu L Aa K)
  |aa=>False
 |.meth o n args,X=>vt λmu m V K=>ifW (isMe n) ((wp Φ o X).v aa m V (λa Aa=>bmW n (wpL Φ args X) m a Aa K)) (omW (GE Φ.me n) (wp Φ o X) (wpL Φ args X) mu X m V K)
 |.comp elt i src cs,X=>vt λmu m V K=>(wp Φ src X).v aa m V (λa Aa=>iterW Φ.q a Aa (λitems ok Ab=>items.length<=big/\D7 i ((wp Φ elt BZ).v aa) (GF (wpL Φ cs BZ)) ok m (λys Ar=>frW mu (.list ys) (.list ys) Ar K) items [] Ab))
 |.mu l e,X=>⟨λZ m V K=>(wp Φ e X).v (some l) m V K,λm V K=>(wp Φ e X).t m V K⟩
 |_,_=>⟨λZ Z Z Z=>False,λZ Z Z=>False⟩
noncomputable def wpL(Φ:Tab):List E->XL->List WT
 |[],_=>[]
 |e::r,X=>wp Φ e X::wpL Φ r X
end
def slotI(V:LS)(a:AV)(K:Addr->Nat->Addr->List (Str×AV)->Prop):Prop:=match a with
 |.loc x i=>(match fields? V i with
  |some f=>(f.1.1=x/\f.2.1=f.1.2)/\K f.1.1 i f.2.1 f.2.2
  |aa=>False)
 |_=>False
noncomputable def vOf:Pat->Option Nat
 |.v i=>some i
 |_=>aa
noncomputable def tupOf:E->Option (List E)
 |.tup es=>some es
 |_=>aa
noncomputable def asg3(p q:Pat)(a b:E):Bool:=match vOf p with
 |some i=>(match vOf q with
  |some j=>!(bV i j) && (DQ 8 a || DQ 8 b)
  |aa=>false)
 |aa=>false
noncomputable def asg2(ps:List Pat)(es:List E):Bool:=match two? ps with
 |some pq=>(match two? es with
  |some ab=>asg3 pq.1 pq.2 ab.1 ab.2
  |aa=>false)
 |aa=>false
noncomputable def asgT(ps:List Pat)(e:E):Bool:=match tupOf e with
 |some es=>asg2 ps es || (fq 4 ps.length && AK e)
 |aa=>FZ e && AK e
noncomputable def notMu:E->Bool
 |.mu _ _=>false
 |_=>true
noncomputable def notMu2:E->Bool
 |.mu _ e=>notMu e
 |_=>true
noncomputable def asgOk(q:Bool)(p:Pat)(e:E):Bool:=match p with
 |.v _=>notMu2 e
 |.tup ps=>q && asgT ps e
noncomputable def E.g?:E->Option Nat
 |.g i=>some i
 |_=>aa
noncomputable def E.str?:E->Option Str
 |.str t=>some t
 |_=>aa
noncomputable def call1?:E->Option (Nat×E)
 |.call f es=>f.g?.bind λi=>(one? es).bind λe=>some (i,e)
 |_=>aa
noncomputable def LC(e:E):Option E:=(call1? e).bind λp=>match bV p.1 9 with
 |true=>some p.2
 |false=>aa
noncomputable def isTup:Pat->Bool
 |.tup _=>true
 |_=>false
def srcS(Φ:Tab)(X:XL)(p:Pat)(e:E)(m:M)(V:LS)(G:KG):Prop:=match LC e with
 |some e'=>(match isTup p with
  |true=>(wp Φ e' X).v aa m V (λa Aa=>enumW Φ.q a Aa G)
  |false=>False)
 |aa=>(wp Φ e X).v aa m V (λa Aa=>iterW Φ.q a Aa G)
noncomputable def xcOf(e:E):Option Nat:=(call1? e).bind λp=>p.2.str?.bind λZ=>some p.1
noncomputable def isXc(ex:List Nat)(i:Nat):Bool:=ex.contains i && fq 18 i && fq i 27
noncomputable def muOf:E->Option Nat
 |.mu i _=>some i
 |_=>aa
def frzM(i:Nat)(a:Addr)(v:AV):M->(M->Prop)->Prop
 |[],K=>K []
 |x::r,K=>(match x with
  |some (.loc b j)=>(match bV j i with
   |true=>b=a/\frzM i a v r (λm=>K (some v::m))
   |false=>frzM i a v r (λm=>K (some (.loc b j)::m)))
  |x=>frzM i a v r (λm=>K (x::m)))
def frzS(o:Option Nat)(m:M)(V:LS)(K:M->LS->Prop):Prop:=match o with
 |aa=>K m V
 |some i=>(match slot V i with
  |.at a o=>(match o with
   |.dict l=>frzM i a (.dict l) m (λm'=>K m' (V.set i .no))
   |_=>False)
  |.no=>False)
set_option tactic.hygienic true in
mutual
def wpS(Φ:Tab):Internal.S->XL->M->LS->KS->Prop
 |.assign p e,X,m,V,K=>quiet (asgOk Φ.q p e) ((wp Φ e X).v aa m V (λa Aa=>patW Φ.q p a m (λAq=>K .next Aq Aa)))
 |.setattr o n e,X,m,V,K=>quiet (AK e && (bV n 11 || bV n 12)) ((wp Φ e X).v aa m V (λx Aa=>(wp Φ o X).v aa m Aa (λa Ab=>slotI Ab a λZ i d fs=>fs.length<=100/\K .next m (Ab.set (i+1) (.at d (.attrs (JG fs (fld n) x)))))))
 |.setitem o i e,X,m,V,K=>quiet (AK e) ((wp Φ e X).v aa m V (λx Aa=>(wp Φ o X).v aa m Aa (λa Ab=>(wp Φ i X).v aa m Ab (λk Ar=>slotD Ar a λb j l=>l.length<=big/\spotW k λkk=>K .next m (Ar.set j (.at b (.dict (BH l kk x))))))))
 |.expr e,X,m,V,K=>quiet (AK e) ((wp Φ e X).v aa m V (λZ Aa=>frzS (muOf e) m Aa (K .next)))
 |.ret e,X,m,V,K=>(wp Φ e X).v aa m V (λa Aa=>K (.ret a) m Aa)
 |.ite c a b,X,m,V,K=>(wp Φ c X).t m V (λt Aa=>ifW t (wpSs Φ a X m Aa K) (wpSs Φ b X m Aa K))
 |.for_ p e body,X,m,V,K=>srcS Φ X p e m V (λitems ok Ab=>Jq Φ.q p (wpSs Φ body X) ok K items m Ab)
 |.while_ c body,X,m,V,K=>∃I:Nat->M->LS->Prop,(∃n,I n m V)/\∀n m V,I n m V->(wp Φ c X).t m V (λt Aa=>ifW t (wpSs Φ body X m Aa (kWh n I K)) (K .next m Aa))
 |.raise e,X,_,V,_=>(match xcOf e with
  |some i=>quiet (isXc Φ.ex i) (quiet Φ.q (X i V))
  |aa=>False)
 |.pass,_,m,V,K=>K .next m V
 |_,_,_,_,_=>False
def wpSs(Φ:Tab):List Internal.S->XL->M->LS->KS->Prop
 |[],_,m,V,K=>K .next m V
 |s::r,X,m,V,K=>wpS Φ s X m V (kSeq (wpSs Φ r X) K)
end
end
section
variable {S:Sta}
section
variable {F:Fx S}{m:Vars}{V:LS}{X:Value->af->Prop}{K:KV}
theorem Up.now{α:Type}{K:α->LS->Prop}{v:α}(k:okS V)(h:K v V):Up K v (Au V):=⟨V,Sub.rfl,k,h⟩
theorem Up.upd{α:Type}{K:α->LS->Prop}{v:α}{i:Nat}{a:Addr}{o p:AObj}(k:okS V)(hi:slot V i=.at a o)(h:K v (V.set i (.at a p))):Up K v ((Au V).set a p) :=
 have f:Fits V i (.at a p):=λZ Z e=>by cases e;exact .inr ⟨o,hi⟩
 ⟨_,E8 k f,Dh k f,h⟩
theorem Up.add{α:Type}{K:α->LS->Prop}{v:α}{i:Nat}{a:Addr}{p:AObj}(k:okS V)(y:¬Dom (Au V) a)(h:K v (V.set i (.at a p))):Up K v ((Au V).set a p) :=
 have f:Fits V i (.at a p):=λZ Z e=>by cases e;exact .inl (Da y)
 ⟨_,E8 k f,Dh k f,h⟩
theorem frW.fresh{mu:Option Nat}{o:AObj}{Y:AV}(k:okS V)(h:frW mu o Y V K):Fresh (Au V) o Y (Up K):=by
 cases mu with|none=>exact .inl (.now k h)|some i=>exact .inr ⟨i,λa y=>.add k y (h a)⟩
theorem dlW.out{v:AV}{K:List AV->Prop}(k:okS V)(h:dlW V v K):∃l,dl (Au V) v=some l/\K l:=by
 cases v with
 |list l=>exact⟨l,rfl,h⟩
 |loc a i =>
  unfold dlW at h;dsimp only at h
  cases q:slot V i with
  |no=>rw[q]at h;exact h.elim
  |«at» b o =>
   rw[q]at h
   cases o with
   |list l=>obtain⟨rfl,h⟩:=h;exact⟨l,BS (Av k q),h⟩
   |_=>exact h.elim
 |_=>exact h.elim
theorem ddW.out{v:AV}{K:List (Ag×AV)->Prop}(k:okS V)(h:ddW V v K):∃l,dd (Au V) v=some l/\K l:=by
 cases v with
 |dict l=>exact⟨l,rfl,h⟩
 |loc a i =>
  unfold ddW at h;dsimp only at h
  cases q:slot V i with
  |no=>rw[q]at h;exact h.elim
  |«at» b o =>
   rw[q]at h
   cases o with
   |dict l=>obtain⟨rfl,h⟩:=h;exact⟨l,CQ (Av k q),h⟩
   |_=>exact h.elim
 |_=>exact h.elim
theorem spotW.out{a:AV}{K:Ag->Prop}(h:spotW a K):∃k:Ag,a=sp k/\K k:=by
 unfold spotW at h
 cases q:spot? a with|none=>rw[q]at h;exact h.elim|some k=>rw[q]at h;exact⟨k,spot?_out q,h⟩
theorem int2.out{a b:AV}{K:Int->Int->Prop}(h:int2 a b K):∃x y,a=.int x/\b=.int y/\K x y:=by
 cases a with
 |int x =>
  cases b with|int y=>exact⟨x,y,rfl,rfl,h⟩|_=>exact h.elim
 |_=>exact h.elim
theorem boolW.out{a:AV}{K:Bool->Prop}(h:boolW a K):∃b,a=.bool b/\K b:=by
 cases a with|bool b=>exact⟨b,rfl,h⟩|_=>exact h.elim
theorem quiet.out{q:Bool}{P:Prop}(h:quiet q P):q=true/\P:=by
 cases q with|true=>exact⟨rfl,h⟩|false=>exact h.elim
theorem vwW.out{v:AV}{K:AV->Prop}(k:okS V)(h:vwW V v K):∃v',K v'/\(∀d,GC v'=some d->BX (Au V) v=some d)/\∀l,v'=.dict l->dd (Au V) v=some l:=by
 cases v with
 |loc a i =>
  unfold vwW at h;dsimp only at h
  cases q:slot V i with
  |no=>rw[q]at h;exact h.elim
  |«at» b o =>
   rw[q]at h
   cases o with
   |list l =>
    obtain⟨rfl,h⟩:=h;refine⟨_,h,λd e=>?_,λl e=>(Am rfl (congrArg (λv=>dd (Au V) v) e)).elim⟩;simp only[BX,BS (Av k q)];exact e
   |dict l=>obtain⟨rfl,h⟩:=h;exact⟨_,h,λd e=>(Am rfl e).elim,λl e=>by rw[CQ (Av k q)];exact congrArg (dd (Au V)) e⟩
   |_=>exact h.elim
 |_=>exact⟨_,h,λd e=>e,λl e=>congrArg (dd (Au V)) e⟩
theorem addW_ok{mu:Option Nat}{a b:AV}(k:okS V)(h:addW mu a b V K):BT F m (Au V) .Add a b (Up K) X:=by
 have Y:(dlW V a λl=>dlW V b λk=>l.length+k.length<=big/\frW mu (.list (l++k)) (.list (l++k)) V K)->BT F m (Au V) .Add a b (Up K) X:=λh=>by
  refine X1pp (h.out k) λl O h=>?_;refine X1ppp (h.out k) λl' z hz h=>?_;exact BT.addList O z hz (h.fresh k)
 cases a with
 |int x =>
  cases b with|int y=>exact BT.add (.now k h)|_=>exact h.elim
 |str x =>
  cases b with|str y=>exact BT.addStr h.1 (.now k h.2)|_=>exact h.elim
 |_=>exact Y h
theorem mulW_ok{mu:Option Nat}{a b:AV}(k:okS V)(h:mulW mu a b V K):BT F m (Au V) .Mult a b (Up K) X:=by
 cases b with
 |int y =>
  cases a with|int x=>exact BT.mul h.1 (.now k h.2)|str x=>exact BT.mulStr h.1 (.now k h.2)|_=>exact h.elim
 |_=>exact h.elim
theorem cnd.out{T:Bool}{P R:Prop}(h:cnd T P R)(U:T=true->P):P/\R:=by
 cases T with|true=>exact⟨U rfl,h⟩|false=>exact h
theorem LW{T:Bool}{mu:Option Nat}{op:gR}{a b:AV}(k:okS V)(U:T=true->∀y,b=.int y->y≠0/\y.natAbs<1073741824)(h:binW T mu op a b V K):BT F m (Au V) op a b (Up K) X:=by
 cases op with|Add=>exact addW_ok k h|Sub=>refine X2llp a b (int2.out h) λx y h=>?_;exact BT.sub (.now k h)|Mult=>exact mulW_ok (mu:=mu) k h|Mod=>unfold binW at h;refine X2ppp (int2.out h) λx y d O h=>?_;subst d;subst O;refine Ao (cnd.out h λq=>(U q y rfl).1) λY z=>?_;exact BT.mod Y (.now k z)|FloorDiv=>unfold binW at h;refine X2ppp (int2.out h) λx y B u h=>?_;subst B;subst u;refine Ao (cnd.out h λq=>U q y rfl) λY z=>?_;exact BT.div Y.1 Y.2 (.now k z)|_=>exact h.elim
theorem lit_pos{e:E}(h:lit e=true):∃n:Nat,e=.int (n+1:Nat)/\n<1000000:=by
 cases e with
 |int i =>
  cases i with
  |ofNat n =>
   cases n with|zero=>exact nF h|succ n=>exact⟨n,rfl,eA.mp h⟩
  |negSucc n=>exact nF h
 |_=>exact(aQ h).elim
theorem lit0_pos{e:E}(h:lit0 e=true):∃n:Nat,e=.int (n:Nat)/\n<1000000:=by
 cases e with
 |int i =>
  cases i with|ofNat n=>exact⟨n,rfl,eA.mp h⟩|negSucc n=>exact nF h
 |_=>exact(aQ h).elim
theorem eqW_ok{a b:AV}{K:Bool->LS->Prop}{f:Bool->Bool}{op:CmpOp}(Y:(op=.Eq/\f=id)\/(op=.NotEq/\f=not))(k:okS V)(h:eqW a b V λt=>K (f t) V):KT F m (Au V) op a b (Up K) X:=by
 have U:∀{a b:AV},(vwW V a λa'=>vwW V b λb'=>∃t,EqP a' b' t/\K (f t) V)->KT F m (Au V) op a b (Up K) X:=λh=>by
  refine X1ppp (h.out k) λa' h ea ea'=>?_;refine X1ppp (h.out k) λb' h eb eb'=>?_;refine X1pp h λt O h=>?_
  cases O with
  |py O =>
   refine X2ppppp O λda db u z B d T=>?_
   rcases Y with⟨rfl,rfl⟩|⟨rfl,rfl⟩
   .exact KT.eq (ea _ u) (eb _ z) B d (.now k (by rw[T];exact h))
   .exact KT.ne (ea _ u) (eb _ z) B d (.now k (by rw[T];exact h))
 cases a with
 |int x =>
  cases b with
  |int y =>
   rcases Y with⟨rfl,rfl⟩|⟨rfl,rfl⟩
   .exact KT.intEq (.now k h)
   .exact KT.intNe (.now k h)
  |_=>exact U (a:=.int x) h
 |_=>exact U h
theorem E6{s:Store}{a:AV}{d:d5}(h:GC a=some d):BX s a=some d:=by
 cases a<;>first|exact h|exact(Am rfl h).elim
theorem inW_ok{a b:AV}{K:Bool->LS->Prop}{f:Bool->Bool}{op:CmpOp}(Y:(op=.In/\f=id)\/(op=.NotIn/\f=not))(k:okS V)(h:inW a b V λt=>K (f t) V):KT F m (Au V) op a b (Up K) X:=by
 obtain⟨t,h,U⟩:=h;have dct:∀{l:List (Ag×AV)},dd (Au V) b=some l->(spotW a λk=>(Cn l k).isSome=t)->KT F m (Au V) op a b (Up K) X:=λe h=>by
  obtain⟨kk,rfl,h⟩:=h.out;subst h
  rcases Y with⟨rfl,rfl⟩|⟨rfl,rfl⟩
  .exact KT.inDict e (.now k U)
  .exact KT.notInDict e (.now k U)
 have seq:∀{v:AV},(∀d,GC v=some d->BX (Au V) b=some d)->InP a v t->KT F m (Au V) op a b (Up K) X:=λe h=>by
  obtain⟨d,xs,h1,h2,B,u,T,O⟩:=h;have z:I3 (Au V) b=some xs:=by
   unfold I3
   rcases h2 with q|q<;>rw[e _ q]
  rcases Y with⟨rfl,rfl⟩|⟨rfl,rfl⟩
  .exact KT.inSeq (E6 h1) z B u T (.now k (by rw[O];exact U))
  .exact KT.notInSeq (E6 h1) z B u T (.now k (by rw[O];exact U))
 cases b with
 |dict l=>exact dct rfl h
 |str x =>
  cases a with
  |str y =>
   have h:eI x y=t:=h;clear h dct seq;subst h
   rcases Y with⟨rfl,rfl⟩|⟨rfl,rfl⟩
   .exact KT.inStr (.now k U)
   .exact KT.notInStr (.now k U)
  |_=>exact h.elim
 |loc ad i =>
  unfold InV at h;dsimp only at h
  cases q:slot V i with
  |no=>rw[q]at h;exact h.elim
  |«at» b o =>
   rw[q]at h
   cases o with
   |list l =>
    obtain⟨rfl,h⟩:=h;refine seq (v:=.list l) (λd e=>?_) h;simp only[BX,BS (Av k q)];exact e
   |dict l=>obtain⟨rfl,h⟩:=h;exact dct (CQ (Av k q)) h
   |_=>exact h.elim
 |_=>exact seq (λd e=>E6 e) h
theorem isW_ok{a b:AV}{K:Bool->LS->Prop}{f:Bool->Bool}{op:CmpOp}(Y:(op=.Is/\f=id)\/(op=.IsNot/\f=not))(k:okS V)(h:isW a b λt=>K (f t) V):KT F m (Au V) op a b (Up K) X:=by
 cases b with
 |none =>
  rcases Y with⟨rfl,rfl⟩|⟨rfl,rfl⟩
  .refine KT.isNone ?_
   cases a<;>first|exact h.elim|exact .now k h
  .refine KT.isNotNone ?_
   cases a<;>first|exact h.elim|exact .now k h
 |bool c =>
  cases a with
  |bool b =>
   rcases Y with⟨rfl,rfl⟩|⟨rfl,rfl⟩
   .exact KT.isBool (.now k h)
   .exact KT.isNotBool (.now k h)
  |_=>exact h.elim
 |_=>exact h.elim
theorem ltW_ok{a b:AV}{K:Bool->LS->Prop}(k:okS V)(h:ltW a b λt=>K t V):KT F m (Au V) .Lt a b (Up K) X:=by
 have U:(int2 a b λx y=>K (decide (x<y)) V)->KT F m (Au V) .Lt a b (Up K) X:=λh=>by
  refine X2llp a b (int2.out h) λx y h=>?_;exact KT.intLt (.now k h)
 cases a with
 |tup l =>
  refine X1pp (spotW.out h) λp e h=>?_;refine X1lp b h.out λq h=>?_;rw[e];exact KT.ltSpot (.now k h)
 |_=>exact U h
theorem FD{op:CmpOp}{a b:AV}{K:Bool->LS->Prop}(k:okS V)(h:cmpW op a b V λt=>K t V):KT F m (Au V) op a b (Up K) X:=by
 cases op with|Eq=>exact eqW_ok (.inl ⟨rfl,rfl⟩) k h|NotEq=>exact eqW_ok (.inr ⟨rfl,rfl⟩) k h|Lt=>exact ltW_ok k h|LtE=>refine X2llp a b (int2.out h) λx y h=>?_;exact KT.intLe (.now k h)|Gt=>refine X2llp a b (int2.out h) λx y h=>?_;exact KT.intGt (.now k h)|In=>exact inW_ok (.inl ⟨rfl,rfl⟩) k h|NotIn=>exact inW_ok (.inr ⟨rfl,rfl⟩) k h|Is=>exact isW_ok (.inl ⟨rfl,rfl⟩) k h|IsNot=>exact isW_ok (.inr ⟨rfl,rfl⟩) k h|_=>exact h.elim
theorem idxW.out{T:Bool}{i:AV}{K:Nat->Prop}(U:T=true->∃n:Nat,i=.int n/\n<1000000)(h:idxW T i K):∃k:Int,i=.int k/\0<=k/\k<1000000/\K k.toNat:=by
 cases i with
 |int k =>
  obtain⟨⟨u,z⟩,Y⟩:=cnd.out h λq=>by
   obtain⟨n,e,O⟩:=U q
   cases e
   exact⟨dX n,Int.ofNat_lt.mpr O⟩
  exact⟨k,rfl,u,z,Y⟩
 |_=>exact h.elim
theorem JS{B:Bool}{a i:AV}(U:B=true->∃n:Nat,i=.int n/\n<1000000)(k:okS V)(h:subW B a i V K):IT F m (Au V) a i (Up K) X:=by
 have lst:∀{l:List AV},dl (Au V) a=some l->(idxW B i λn=>∃x,l[n]?=some x/\K x V)->IT F m (Au V) a i (Up K) X:=λe h=>by
  obtain⟨kk,rfl,T,Y,x,u,h⟩:=idxW.out U h;exact IT.list e T Y u (.now k h)
 have dct:∀{l:List (Ag×AV)},dd (Au V) a=some l->(spotW i λk=>∃x,Cn l k=some x/\K x V)->IT F m (Au V) a i (Up K) X:=λe h=>by
  obtain⟨kk,rfl,x,u,h⟩:=h.out;exact IT.dict e u (.now k h)
 cases a with
 |tup l =>
  unfold subW at h;obtain⟨kk,rfl,T,Y,h⟩:=idxW.out U h
  cases u:l[kk.toNat]? with|none=>rw[u]at h;exact h.elim|some x=>rw[u]at h;exact IT.tup T Y u (.now k h)
 |str x=>unfold subW at h;obtain⟨kk,rfl,T,Y,c,u,h⟩:=idxW.out U h;exact IT.str T Y u (.now k h)
 |nums l=>unfold subW at h;obtain⟨kk,rfl,T,Y,c,u,h⟩:=idxW.out U h;exact IT.nums T Y u (.now k h)
 |list l=>exact lst rfl h
 |dict l=>exact dct rfl h
 |loc ad j =>
  unfold subW at h;dsimp only at h
  cases q:slot V j with
  |no=>rw[q]at h;exact h.elim
  |«at» b o =>
   rw[q]at h
   cases o with
   |list l=>obtain⟨rfl,h⟩:=h;exact lst (BS (Av k q)) h
   |dict l=>obtain⟨rfl,h⟩:=h;exact dct (CQ (Av k q)) h
   |_=>exact h.elim
 |_=>exact h.elim
end
end
section
variable {S:Sta}
end
section
variable {S:Sta}{W:Wd}
theorem Sub.trans{V:LS}{s t:Store}(a:Sub V s)(b:∀x o,s x=some o->t x=some o):Sub V t:=λx o h=>b x o (a x o h)
theorem Up.less{α:Type}{K:α->LS->Prop}{v:α}{s t:Store}(h:Up K v s)(b:∀x o,s x=some o->t x=some o):Up K v t:=by
 obtain⟨V,e,k,q⟩:=h;exact⟨V,e.trans b,k,q⟩
theorem Sub.at{V:LS}{s:Store}{i:Nat}{a:Addr}{o:AObj}(h:Sub V s)(k:okS V)(q:slot V i=.at a o):s a=some o:=h _ _ (Av k q)
theorem frW.freshS{V:LS}{s:Store}{K:KV}{mu:Option Nat}{o:AObj}{Y:AV}(k:okS V)(hs:Sub V s)(h:frW mu o Y V K):Fresh s o Y (Up K):=by
 rcases h.fresh k with q|⟨i,q⟩
 .exact .inl (q.less hs)
 .refine .inr ⟨i,λa y=>(q a λd=>y ?_).less λx p e=>?_⟩
  .intro z
   cases e:Au V a with|none=>exact d e|some u=>rw[hs _ _ e]at z;exact nS' z
  .by_cases z:x=a
   .clear y;subst z;rw[Store.set_self]at e ⊢;exact e
   .rw[Store.set_ne _ _ z]at e ⊢;exact hs _ _ e
section
variable {F:Fx S}{m:Vars}{V:LS}{X:Value->af->Prop}{K:KV}
theorem tyW_ok{a:AV}{t:Ty}{P:Prop}(k:okS V)(h:atW V a (tyW V a=some t/\P)):tyA (Au V) a=some t/\P:=by
 cases a with
 |loc x i =>
  unfold atW at h;unfold tyA;dsimp only at h ⊢;unfold tyW at h;dsimp only at h
  cases q:slot V i with
  |no=>rw[q]at h;exact h.elim
  |«at» b o =>
   rw[q]at h;obtain⟨rfl,h,p⟩:=h;rw[Av k q];refine⟨?_,p⟩
   cases o<;>exact h
 |_=>exact h
theorem atW.imp{a:AV}{P Q:Prop}(g:P->Q)(h:atW V a P):atW V a Q:=by
 cases a with
 |loc x i =>
  unfold atW at h ⊢;dsimp only at h ⊢
  cases q:slot V i with|no=>rw[q]at h;exact h.elim|«at» b o=>rw[q]at h;exact⟨h.1,g h.2⟩
 |_=>exact g h
set_option tactic.hygienic true in
theorem isiW_ok{a c:AV}{ex:List Nat}(G:Good S W)(d:∀i,ex.contains i=true->W.U i=true)(k:okS V)(h:isiW ex a c V K):CT F m (Au V) (.builtin "isinstance") [a,c] (Up K) X:=by
 cases c with
 |cls j =>
  have gen:atW V a (match isi? V a j with
   |some b=>K (.bool b) V
   |aa=>False)->CT F m (Au V) (.builtin "isinstance") [a,.cls j] (Up K) X:=λh=>by
   cases z:isi? V a j with
   |none =>
    rw[z]at h;exact(tyW_ok (t:=.none) (P:=False) k (h.imp False.elim)).2.elim
   |some b =>
    rw[z]at h;refine X1pp (AD z) λt ht z=>?_;refine X1pp (AD z) λu hu e=>?_;refine Ao (tyW_ok k (h.imp λp=>⟨ht,p⟩)) λh1 h2=>?_;obtain rfl:=ae e;exact CT.isinst h1 (Hx G hu).1 (Hx G hu).2 (.now k h2)
  cases a with
  |exc c =>
   unfold isiW at h;dsimp only at h
   split at h
   .rename_i q
    simp only[be,ij]at q;obtain⟨⟨⟨⟨⟨Y,q2⟩,T⟩,y⟩,q5⟩,q6⟩:=q;refine X5pppp (G.exc _ T y (d _ Y)) λx C bm nid ini hix B O FB=>?_;exact CT.isx B (G.exk _ C T y (d _ Y) B) (G.sub _ _ T y (d _ Y) q5 q6 (d _ q2)).2 (.now k h)
   .exact h.elim
  |_=>exact gen h
 |_=>exact h.elim
theorem lenW_ok{a:AV}(k:okS V)(h:lenW a V K):CT F m (Au V) (.builtin "len") [a] (Up K) X:=by
 cases a with
 |str x=>exact CT.lenStr h.1 (.now k h.2)
 |tup l=>exact CT.lenTup h.1 (.now k h.2)
 |nums l=>exact CT.lenInts h.1 (.now k h.2)
 |list l=>exact CT.lenList rfl h.1 (.now k h.2)
 |dict l=>exact CT.lenDict rfl h.1 (.now k h.2)
 |loc ad i =>
  unfold lenW at h;dsimp only at h
  cases q:slot V i with
  |no=>rw[q]at h;exact h.elim
  |«at» b o =>
   rw[q]at h
   cases o with|list l=>refine Bl h λu Y z=>?_;subst u;exact CT.lenList (BS (Av k q)) Y (.now k z)|dict l=>refine Bl h λU Y z=>?_;subst U;exact CT.lenDict (CQ (Av k q)) Y (.now k z)|_=>exact h.elim
 |_=>exact h.elim
theorem listW_ok{q:Bool}{mu:Option Nat}{a:AV}(hq:q=true->S.hx=aa)(k:okS V)(h:listW q mu a V K):CT F m (Au V) (.type "list") [a] (Up K) X:=by
 cases a with
 |tup l=>exact CT.listTup h.1 (h.2.fresh k)
 |list l=>exact CT.listList rfl h.1 (h.2.fresh k)
 |dict l=>refine Bl (quiet.out h) λe Y z=>?_;exact CT.listDict (hq e) rfl Y (z.fresh k)
 |loc ad i =>
  unfold listW at h;dsimp only at h
  cases q:slot V i with
  |no=>rw[q]at h;exact h.elim
  |«at» b o =>
   rw[q]at h
   cases o with
   |list l=>refine Bl h λu Y z=>?_;subst u;exact CT.listList (BS (Av k q)) Y (z.fresh k)
   |dict l=>obtain⟨rfl,h⟩:=h;obtain⟨e,Y,z⟩:=quiet.out h;exact CT.listDict (hq e) (CQ (Av k q)) Y (z.fresh k)
   |_=>exact h.elim
 |_=>exact h.elim
theorem ints?_out:∀{u:List AV}{l:List Int},ints? u=some l->u=l.map .int
 |[],l,h=>by obtain rfl:=ae h;rfl
 |a::r,l,h=>by
  refine X1pp (AD (show a.int?.bind (λx=>(ints? r).bind λl=>some (x::l))=some l from h)) λx Y h=>?_
  refine X1pp (AD h) λk z h=>?_;obtain rfl:=ae h;rw[AV.int?_out Y,ints?_out z];rfl
theorem Kf{u:List AV}(k:okS V)(h:Kg u V K):CT F m (Au V) (.type "range") u (Up K) X:=by
 unfold Kg at h
 cases q:ints? u with
 |none=>rw[q]at h;exact h.elim
 |some l =>
  rw[q]at h;rw[ints?_out q]
  cases l with
  |nil=>exact h.elim
  |cons a l =>
   cases l with
   |nil=>exact CT.range1 (.now k h)
   |cons b l =>
    cases l with
    |nil=>exact CT.range2 (.now k h)
    |cons c l =>
     cases l with|nil=>exact CT.range3 h.1 h.2.1 (.now k h.2.2)|cons _ _=>exact h.elim
theorem Cl{u:List AV}{P:AV->Prop}(h:match u with | [a]=>P a|_=>False):∃a,u=[a]/\P a:=by
 cases u with
 |nil=>exact h.elim
 |cons a r =>
  cases r with|nil=>exact⟨a,rfl,h⟩|cons _ _=>exact h.elim
theorem Hy{u:List AV}{P:AV->AV->Prop}(h:match u with | [a,b]=>P a b|_=>False):∃a b,u=[a,b]/\P a b:=by
 cases u with
 |nil=>exact h.elim
 |cons a r =>
  cases r with
  |nil=>exact h.elim
  |cons b r =>
   cases r with|nil=>exact⟨a,b,rfl,h⟩|cons _ _=>exact h.elim
theorem nil_of{u:List AV}{P:Prop}(h:match u with | []=>P|_=>False):u=[]/\P:=by
 cases u with|nil=>exact⟨rfl,h⟩|cons _ _=>exact h.elim
def AllTo(P:Nat->Prop):Nat->Prop
 |0=>True
 |n+1=>AllTo P n/\P n
theorem AllTo.get{P:Nat->Prop}{i:Nat}:∀{n:Nat},AllTo P n->i<n->P i
 |0,_,q=>(ek _ q).elim
 |n+1,h,q=>(Nat.lt_or_eq_of_le (Nat.le_of_lt_succ q)).elim (λq=>h.1.get q) λq=>q▸h.2
theorem buW_ok{q:Bool}{ex:List Nat}{mu:Option Nat}{i:Nat}{u:List AV}(G:Good S W)(hx:∀i,ex.contains i=true->W.U i=true)(hq:q=true->S.hx=aa)(k:okS V)(hi:i<17)(h:buW q ex mu i u V K):CT F m (Au V) (bv i) u (Up K) X:=by
 refine AllTo.get (P:=λi=>∀u,buW q ex mu i u V K->CT F m (Au V) (bv i) u (Up K) X) (n:=17) ?_ hi u h;refine⟨⟨⟨⟨⟨⟨⟨⟨⟨⟨⟨⟨⟨⟨⟨⟨⟨trivial,λZ h=>?_⟩,λZ h=>?_⟩,λZ h=>h.elim⟩,λZ h=>h.elim⟩,λZ h=>?_⟩,λZ h=>?_⟩,λZ h=>h.elim⟩,λZ h=>?_⟩,λZ h=>Kf k h⟩,λZ h=>h.elim⟩,λZ h=>h.elim⟩,λZ h=>?_⟩,λZ h=>?_⟩,λZ h=>?_⟩,λZ h=>?_⟩,λZ h=>?_⟩,λZ h=>?_⟩
 .refine X1pp (Cl h) λa Z0 h=>?_
  subst Z0;exact lenW_ok k h
 .refine X2pp (Hy h) λa b Z1 h=>?_
  subst Z1;exact isiW_ok G hx k h
 .exact h.elim
 .refine X1pp (Cl h) λa Z2 h=>?_
  subst Z2;exact listW_ok hq k h
 .refine X1pp (Cl h) λa Z3 h=>?_
  subst Z3
  rcases h with h|h
  .obtain⟨l,Y,⟨B,O,z⟩,h⟩:=ddW.out k h
   exact CT.dictCopy Y B O z (h.fresh k)
  .exact h.elim
 .refine X1pp (Cl h) λa Z4 h=>?_
  subst Z4;refine Ao (quiet.out h) λe h=>?_;refine X1lp a (spotW.out h) λp h=>?_;exact CT.sum2 (hq e) h.1.1 h.1.2 (.now k h.2)
 .refine X1pp (Cl h) λa Z5 h=>?_
  subst Z5
  cases a with|int x=>exact CT.abs (.now k h)|_=>exact h.elim
 .refine X2pp (Hy h) λa b Z6 h=>?_
  subst Z6;refine Ao (quiet.out h) λe h=>?_;refine X2llp a b (int2.out h) λx y h=>?_;exact CT.min2' (hq e) (.now k h)
 .refine X2pp (Hy h) λa b Z7 h=>?_
  subst Z7;refine Ao (quiet.out h) λe h=>?_;refine X2llp a b (int2.out h) λx y h=>?_;exact CT.max2' (hq e) (.now k h)
 .refine X1pp (Cl h) λa Z8 h=>?_
  subst Z8;refine Ao (quiet.out h) λe h=>?_;refine X1pp (h.out k) λl Y T=>?_;refine X1pp T λbs Z9 h=>?_;clear T;subst Z9;exact CT.all (hq e) Y (.now k h)
 .refine X1pp (Cl h) λa Y0 h=>?_
  subst Y0;refine Ao (quiet.out h) λe h=>?_;refine X1pp (h.out k) λl Y d=>?_;refine X1pp d λbs Y1 h=>?_;clear d;subst Y1;exact CT.any (hq e) Y (.now k h)
end
def Snd(S:Sta)(k:Nat)(fv:Value)(f:FS):Prop:=∀F:Fx S,k<=F.k->∀m mu avs V K X,okS V->ownW f mu avs V K X->CT F m (Au V) fv avs (Up K) (XF F m (Up X))
structure TabOk(S:Sta)(W:Wd)(k:Nat)(Φ:Tab):Prop where
 good:Good S W
 q:Φ.q=true->S.hx=aa
 ex:∀i,Φ.ex.contains i=true->W.U i=true
 fn:∀i f,GE Φ.fn i=some f->(W.U i=true/\i≠28)/\Snd S k (S.cv i) f
 me:∀n f,GE Φ.me n=some f->∃fa,W.M n=some fa/\Snd S k (.ref fa) f
 ky:∀i f,GE Φ.ky i=some f->W.U i=true/\∃fa kf,S.cv i=.ref fa/\kf+2<=k/\∀x,(f x).isSome=true->KeyT S kf (.ref fa) (Du f) [x]
set_option tactic.hygienic true in
theorem callW_ok{Φ:Tab}{k:Nat}{F:Fx S}{m:Vars}{V:LS}{X:XL}{K:KV}{mu:Option Nat}{i:Nat}{u:List AV}(T:TabOk S W k Φ)(B:k<=F.k)(o:okS V)(h:callW Φ X mu i u V K) :
  (W.U i=true/\i≠28)/\CT F m (Au V) (S.cv i) u (Up K) (XF F m (Up X)):=by
 unfold callW at h
 split at h
 .rename_i q
  have q:=eA.mp q;refine⟨⟨T.good.bu i q,λd=>lin [i] [] .no [.c V0 K17,.D (-1) V0 K28] rfl q d⟩,?_⟩;rw[T.good.base i q];exact buW_ok T.good T.ex T.q o q h
 .split at h
  .rename_i f z
   exact⟨(T.fn i f z).1,(T.fn i f z).2 F B m mu u V K X o h⟩
  .exact h.elim
inductive SlC(V:LS)(P:Addr->Nat->List AV->Prop)(P':Addr->Nat->List (Ag×AV)->Prop):AV->Prop
 |l (x:Addr)(i:Nat)(l:List AV)(z:slot V i=.at x (.list l))(h:P x i l):SlC V P P' (.loc x i)
 |d (x:Addr)(i:Nat)(l:List (Ag×AV))(z:slot V i=.at x (.dict l))(h:P' x i l):SlC V P P' (.loc x i)
theorem slotC.out{V:LS}{a:AV}{P:Addr->Nat->List AV->Prop}{u:Addr->Nat->List (Ag×AV)->Prop}(h:slotC V a P u):SlC V P u a:=by
 cases a with
 |loc x i =>
  unfold slotC at h;dsimp only at h
  cases q:slot V i with
  |no=>rw[q]at h;exact h.elim
  |«at» b o =>
   rw[q]at h
   cases o with
   |list l=>obtain⟨rfl,h⟩:=h;exact .l _ _ _ q h
   |dict l=>obtain⟨rfl,h⟩:=h;exact .d _ _ _ q h
   |_=>exact h.elim
 |_=>exact h.elim
theorem slotL.out{V:LS}{a:AV}{P:Addr->Nat->List AV->Prop}(h:slotL V a P):∃x i l,a=.loc x i/\slot V i=.at x (.list l)/\P x i l:=by
 cases a with
 |loc x i =>
  unfold slotL at h;dsimp only at h
  cases q:slot V i with
  |no=>rw[q]at h;exact h.elim
  |«at» b o =>
   rw[q]at h
   cases o with|list l=>refine Ao h λu h=>?_;subst u;exact⟨_,_,_,rfl,q,h⟩|_=>exact h.elim
 |_=>exact h.elim
theorem obj?_out{s:Slot}{b:Addr×AObj}(h:s.obj?=some b):s=.at b.1 b.2:=by
 cases s with
 |no=>exact nS h
 |«at» a o=>obtain rfl:=ae h;rfl
theorem E4{l:List (Str×AV)}{p:(Str×AV)×(Str×AV)}(q:two? l=some p)(u:p.1.1 = "texts")(T:p.2.1 = "own"):l=FJ p.1.2 p.2.2:=by
 rw[two?_out q];unfold FJ;rw[<- u,<- T]
theorem fields?_out{V:LS}{i:Nat}{f:(Addr×Addr)×Addr×List (Str×AV)}(h:fields? V i=some f):slot V i=.at f.1.1 (.inst f.1.2)/\slot V (i+1)=.at f.2.1 (.attrs f.2.2):=by
 refine X1pp (AD h) λb T h=>?_;refine X1pp (AD h) λd z h=>?_;refine X1pp (AD h) λc Y h=>?_;refine X1pp (AD h) λl y h=>?_;obtain rfl:=ae h;exact⟨by rw[obj?_out T,AObj.inst?_out z],by rw[obj?_out Y,AObj.attrs?_out y]⟩
theorem instW.out{V:LS}{s:Store}{a:AV}{P:AV->AV->Prop}(k:okS V)(hs:Sub V s)(h:instW V a P):∃t o,Ef s a=some (FJ t o)/\P t o:=by
 cases a with
 |inst l =>
  have h:(match two? l with
   |some p=>(p.1.1 = "texts"/\p.2.1 = "own")/\P p.1.2 p.2.2
   |aa=>False):=h
  cases q:two? l with|none=>rw[q]at h;exact h.elim|some p=>rw[q]at h;rw[E4 q h.1.1 h.1.2];exact⟨_,_,rfl,h.2⟩
 |loc x i =>
  have h:(match fields? V i with
   |some f=>(match two? f.2.2 with
    |some p=>(f.1.1=x/\f.2.1=f.1.2/\p.1.1 = "texts"/\p.2.1 = "own")/\P p.1.2 p.2.2
    |aa=>False)
   |aa=>False):=h
  cases q:fields? V i with
  |none=>rw[q]at h;exact h.elim
  |some f =>
   rw[q]at h;dsimp only at h
   cases q2:two? f.2.2 with
   |none=>rw[q2]at h;exact h.elim
   |some p =>
    rw[q2]at h;obtain⟨⟨rfl,Y,B,O⟩,d⟩:=h;refine Ao (fields?_out q) λy T=>?_;refine⟨_,_,?_,d⟩;exact(EX (hs.at k y) (Y▸hs.at k T)).trans (congrArg some (E4 q2 B O))
 |_=>exact h.elim
structure Sd(S:Sta)(k:Nat)(e:E)(f:WT)(X:XL):Prop where
 v:∀F:Fx S,k<=F.k->∀mu m V K,okS V->f.v mu m V K->ET F (vr m) (Au V) e (Up K) (XF F (vr m) (Up X))
 t:∀F:Fx S,k<=F.k->∀m V K,okS V->f.t m V K->TT F (vr m) (Au V) e (Up K) (XF F (vr m) (Up X))
class inductive SdL(S:Sta)(k:Nat)(X:XL):List E->List WT->Prop
 |nil:SdL S k X [] []
 |cons {e:E}{f:WT}{es:List E}{fs:List WT}(h:Sd S k e f X)(t:SdL S k X es fs):SdL S k X (e::es) (f::fs)
section
variable {k:Nat}{F:Fx S}{m:M}{X:XL}
theorem Sd.on{e:E}{f:WT}(d:Sd S k e f X)(B:k<=F.k){mu:Option Nat}{V:LS}{s:Store}{K:KV}{Q:AV->Store->Prop}(o:okS V)(hs:Sub V s)(h:f.v mu m V K)(q:∀a Aa Ac,okS Aa->Sub Aa Ac->K a Aa->Q a Ac):ET F (vr m) s e Q (XF F (vr m) (Up X)) :=
 ET.less hs (ET.mono (d.v F B mu m V K o h) λa Ac z=>by obtain⟨Aa,e,Y,z⟩:=z;exact q a Aa Ac Y e z)
theorem Sd.onT{e:E}{f:WT}(d:Sd S k e f X)(B:k<=F.k){V:LS}{s:Store}{K:KB}{Q:Bool->Store->Prop}(o:okS V)(hs:Sub V s)(h:f.t m V K)(q:∀a Aa Ac,okS Aa->Sub Aa Ac->K a Aa->Q a Ac):TT F (vr m) s e Q (XF F (vr m) (Up X)) :=
 TT.less hs (TT.mono (d.t F B m V K o h) λa Ac z=>by obtain⟨Aa,e,Y,z⟩:=z;exact q a Aa Ac Y e z)
theorem DK(B:k<=F.k){es:List E}{fs:List WT}(d:SdL S k X es fs):∀{V:LS}{s:Store}{K:List AV->LS->Prop}{Q:List AV->Store->Prop},okS V->Sub V s->I2 fs m V K->(∀a Aa Ac,okS Aa->Sub Aa Ac->a.length=es.length->K a Aa->Q a Ac)->EsT F (vr m) s es Q (XF F (vr m) (Up X)):=by
 induction d with|nil=>exact λo hs h q=>EsT.nil (q _ _ _ o hs rfl h)|cons d _ y=>exact λo hs h q=>EsT.cons (d.on B o hs h λa Aa Ac z O Ad=>y z O Ad λl Ab u AI Y U T=>q _ Ab u AI Y (congrArg fS U) T)
theorem J3(B:k<=F.k){es:List E}{fs:List WT}{V:LS}{s:Store}{K:List AV->LS->Prop}{Q:List AV->Store->Prop}(d:SdL S k X es fs)(o:okS V)(hs:Sub V s)(h:I2 fs m V K)(q:∀a Aa Ac,okS Aa->Sub Aa Ac->K a Aa->Q a Ac):EsT F (vr m) s es Q (XF F (vr m) (Up X)):=DK B d o hs h λa Aa Ac Y O Z=>q a Aa Ac Y O
theorem Cz(B:k<=F.k){es:List E}{fs:List WT}{V:LS}{s:Store}{K:List AV->LS->Prop}{Q:List AV->Store->Prop}(d:SdL S k X es fs)(o:okS V)(hs:Sub V s)(h:I2 fs m V K)(q:∀a Aa Ac,okS Aa->Sub Aa Ac->K a Aa->Q a Ac):ArgsT F (vr m) s es Q (XF F (vr m) (Up X)):=by
 induction d using SdL.casesOn with|nil=>exact q _ V s o hs h|cons d t=>exact J3 B (.cons d t) o hs h q
theorem andT_ok(B:k<=F.k){K:KB}{es:List E}{fs:List WT}(d:SdL S k X es fs):∀{V:LS}{s:Store},okS V->Sub V s->andT fs m V K->AndT F (vr m) (XF F (vr m) (Up X)) (Up K) es s:=by
 induction d with
 |nil=>exact λo hs h=>⟨_,hs,o,h⟩
 |cons d _ U =>
  exact λo hs h=>d.onT B o hs h λb Aa Ac Y O y=>by
   cases b with|true=>exact U Y O y|false=>exact⟨Aa,O,Y,y⟩
theorem orT_ok(B:k<=F.k){K:KB}{es:List E}{fs:List WT}(d:SdL S k X es fs):∀{V:LS}{s:Store},okS V->Sub V s->orT fs m V K->OrT F (vr m) (XF F (vr m) (Up X)) (Up K) es s:=by
 induction d with
 |nil=>exact λo hs h=>⟨_,hs,o,h⟩
 |cons d _ U =>
  exact λo hs h=>d.onT B o hs h λb Aa Ac Y O y=>by
   cases b with|true=>exact⟨Aa,O,Y,y⟩|false=>exact U Y O y
theorem andV_ok(B:k<=F.k){K:KV}{es:List E}{fs:List WT}(d:SdL S k X es fs):∀{V:LS}{s:Store},okS V->Sub V s->andV fs m V K->AndV F (vr m) (XF F (vr m) (Up X)) (Up K) es s:=by
 induction d with
 |nil=>exact λZ Z h=>h
 |cons d t z =>
  induction t using SdL.casesOn with
  |nil=>exact λo hs h=>d.on B o hs h λa Aa Ac Y O y=>⟨Aa,O,Y,y⟩
  |cons T t =>
   exact λo hs h=>d.on B o hs h λa Aa Ac Y O y=>by
    refine X1lp a (boolW.out y) λb y=>?_;refine⟨b,rfl,?_⟩
    cases b with|true=>exact z Y O y|false=>exact⟨Aa,O,Y,y⟩
theorem orV_ok(B:k<=F.k){K:KV}{es:List E}{fs:List WT}(d:SdL S k X es fs):∀{V:LS}{s:Store},okS V->Sub V s->orV fs m V K->OrV F (vr m) (XF F (vr m) (Up X)) (Up K) es s:=by
 induction d with
 |nil=>exact λZ Z h=>h
 |cons d t z =>
  induction t using SdL.casesOn with
  |nil=>exact λo hs h=>d.on B o hs h λa Aa Ac Y O y=>⟨Aa,O,Y,y⟩
  |cons T t =>
   exact λo hs h=>d.on B o hs h λa Aa Ac Y O y=>by
    refine X1lp a (boolW.out y) λb y=>?_;refine⟨b,rfl,?_⟩
    cases b with|true=>exact⟨Aa,O,Y,y⟩|false=>exact z Y O y
theorem pairW_ok(B:k<=F.k){K:List (AV×AV)->LS->Prop}{Q:List (AV×AV)->Store->Prop}(q:∀a Aa Ac,okS Aa->Sub Aa Ac->K a Aa->Q a Ac){ks:List E}{fs:List WT}(d:SdL S k X ks fs):∀{vs:List E}{y:List WT}{r:List (AV×AV)}{V:LS}{s:Store},SdL S k X vs y->okS V->Sub V s->pairW fs y r m V K->E1 F (vr m) (XF F (vr m) (Up X)) Q ks vs r s:=by
 induction d with
 |nil =>
  intro vs y r V s Y o hs h
  induction Y using SdL.casesOn with|nil=>exact q r V s o hs h|cons _ _=>exact h.elim
 |cons d _ U =>
  intro vs y r V s Y o hs h
  induction Y using SdL.casesOn with|nil=>exact h.elim|cons Y t=>exact d.on B o hs h λa Aa Ac T z Ad=>Y.on B T z Ad λb Ab Aj AI u O=>U t AI u O
theorem noUp{F:Fx S}{m:Vars}{e:Value}{s:af}(x:XF F m (Up BZ) e s):False:=by
 obtain⟨T,c,V',Ak,O,d,Y,⟨_,_,_,z⟩⟩:=x;exact z
theorem testW_ok(B:k<=F.k){es:List E}{fs:List WT}{V:LS}{s:Store}{K:KB}{Q:Bool->Store->Prop}(d:SdL S k BZ es fs)(o:okS V)(hs:Sub V s)(h:GF fs m V K)(q:∀a Aa Ac,okS Aa->Sub Aa Ac->K a Aa->Q a Ac):TestT F (vr m) s es Q:=by
 induction d using SdL.casesOn with
 |nil=>exact q _ V s o hs h
 |cons d t =>
  induction t using SdL.casesOn with|nil=>exact(d.onT B o hs h q).monoX λZ Z x=>noUp x|cons _ _=>exact h.elim
end
end
section
variable {S:Sta}{W:Wd}
structure Turn(ok:Option Nat)(okP:Store->Store->Prop)(I:LS->Prop):Prop where
 go:∀{AC:LS}{Ak:Store}{Ab:LS}{Aj:Store}{P:Prop},okS AC->okS Ab->Sub AC Ak->Sub Ab Aj->I AC->stays ok AC Ab P->(okP Ak Aj/\I Ab)/\P
theorem Turn.free{u:Store->Store->Prop}(h:∀s t,u s t):Turn aa u (λZ=>True):=⟨λZ Z Z Z Z p=>⟨⟨h _ _,trivial⟩,p⟩⟩
theorem Turn.loc{x:Addr}{i j:Nat}{o:AObj}:Turn (some i) (okL (.loc x j)) (λV=>slot V i=.at x o):=⟨λz O B Y e p=>by
 have T:=p.1.trans e;exact⟨⟨(Y.at O T).trans (B.at z e).symm,T⟩,p.2⟩⟩
inductive Iters(F:Fx S)(s:Store)(a:AV)(V:LS)(G:KG):Prop
 |mk (items:List AV)(okP:Store->Store->Prop)(ok:Option Nat)(I:LS->Prop)(it:IterT F s a items okP)(tn:Turn ok okP I)(i:I V)(g:G items ok V):Iters F s a V G
theorem HS{F:Fx S}{q:Bool}{a:AV}{V:LS}{s:Store}{G:KG}(hq:q=true->S.hx=aa)(o:okS V)(hs:Sub V s)(h:iterW q a V G):Iters F s a V G:=by
 cases a with
 |tup l=>refine Ao (quiet.out h) λe h=>?_;exact⟨_,_,_,_,IterT.tup (hq e),.free λZ Z=>trivial,trivial,h⟩
 |list l=>refine Ao (quiet.out h) λe h=>?_;exact⟨_,_,_,_,IterT.list (hq e) (dl_list _ _),.free λZ Z=>trivial,trivial,h⟩
 |str x=>refine Bl (quiet.out h) λe Y h=>?_;exact⟨_,_,_,_,IterT.str (hq e) Y,.free λZ Z=>trivial,trivial,h⟩
 |dict l=>refine Ao (quiet.out h) λe h=>?_;exact⟨_,_,_,_,IterT.dict (hq e),.free λZ Z=>trivial,trivial,h⟩
 |range a b c=>exact⟨_,_,_,_,IterT.range h.1,.free λZ Z=>trivial,trivial,h.2⟩
 |loc x i =>
  unfold iterW at h;dsimp only at h
  cases z:slot V i with
  |no=>rw[z]at h;exact h.elim
  |«at» b p =>
   rw[z]at h
   cases p with
   |list l =>
    obtain⟨rfl,h⟩:=h;obtain⟨e,h⟩:=quiet.out h;exact⟨_,_,_,_,IterT.list (hq e) (BS (hs.at o z)),.loc,z,h⟩
   |_=>exact h.elim
 |_=>exact h.elim
theorem FC{k:Nat}{F:Fx S}{i:Nat}{B:E}{f:WT}{cs:List E}{fs:List WT}{ok:Option Nat}{u:Store->Store->Prop}{I:LS->Prop}{m:M}{K:List AV->LS->Prop}{Q:List AV->Store->Prop}(d:Sd S k B f BZ)(dt:SdL S k BZ cs fs)(Y:k<=F.k)(tn:Turn ok u I)(q:∀a Aa Ac,okS Aa->Sub Aa Ac->K a Aa->Q a Ac) :
  ∀{items O:List AV}{V:LS}{s:Store},okS V->Sub V s->I V->D7 i (f.v aa) (GF fs) ok m K items O V->FH F i B cs u (vr m) Q items O s
 |[],O,V,s,o,hs,_,h=>q _ V s o hs h
 |x::r,O,V,s,o,hs,hi,h=>by
  refine(?_:TestT F ((vr m).set i x) s cs _);rw[<- Eo];refine testW_ok Y dt o hs h λb Aa Ac Al Af Ad=>?_
  cases b with
  |true =>
   rw[if_pos rfl];refine(d.on Y Al Af Ad λy Ab Aj AI Aw Ah=>?_).monoX λZ Z x=>noUp x;obtain⟨⟨U,z⟩,T⟩:=tn.go o AI hs Aw hi Ah;exact⟨U,FC d dt Y tn q AI Aw z T⟩
  |false =>
   rw[if_neg (by decide)]
   obtain⟨⟨U,z⟩,T⟩:=tn.go o Al hs Af hi Ad;exact⟨U,FC d dt Y tn q Al Af z T⟩
theorem Fresh.mono{V:Store}{o:AObj}{Y:AV}{Q z:AV->Store->Prop}(h:Fresh V o Y Q)(k:∀a s,Q a s->z a s):Fresh V o Y z:=by
 rcases h with q|⟨i,q⟩
 .exact .inl (k _ _ q)
 .exact .inr ⟨i,λa d=>k _ _ (q a d)⟩
theorem FA{Q:AV->Store->Prop}{Φ:Tab}{k:Nat}{F:Fx S}{m:M}{X:XL}{V:LS}{K:KV}{mu:Option Nat}{z B:E}{i:Nat}{y:List E}{f g:WT}{fs:List WT}{p:Pat}(T:TabOk S W k Φ)(U:k<=F.k)(ds:Sd S k B g X)(d:Sd S k z f BZ)(dt:SdL S k BZ y fs)(o:okS V)(q:∀a s,Up K a s->Q a s)
  (h:g.v aa m V (λa Aa=>iterW Φ.q a Aa (λitems ok Ab=>items.length<=big/\D7 i (f.v aa) (GF fs) ok m (λO Y=>frW mu (.list O) (.list O) Y K) items [] Ab))) :
  SrcT F (vr m) (Au V) p B (λitems u s=>items.length<=big/\∀F':Fx S,F'.tb=F.tb->F'.k=F.k->FH F' i z y u (vr m) (λO Aj=>Fresh Aj (.list O) (.list O) Q) items [] s) (XF F (vr m) (Up X)) :=
 SrcT.val (ds.on U o Sub.rfl h λa Aa Ac Al Af Ad=>by
  obtain⟨items,u,ok,I,it,tn,hi,hz,Ah⟩:=HS (F:=F) T.q Al Af Ad;exact⟨items,u,it,hz,λF' Z e=>FC d dt (by rw[e];exact U) tn (λO Y BI Ff CI AS=>(AS.freshS Ff CI).mono q) Al Af hi Ah⟩)
section
variable {k:Nat}{X:XL}{Φ:Tab}
theorem Sd.vt{e:E}{f:Option Nat->M->LS->KV->Prop}(d:HK e=true)(h:∀F:Fx S,k<=F.k->∀mu m V K,okS V->f mu m V K->ET F (vr m) (Au V) e (Up K) (XF F (vr m) (Up X))):Sd S k e (vt f) X :=
 ⟨h,λF B m V K o q=>TT.val d (ET.mono (h F B aa m V _ o q) λa s z=>by
  obtain⟨Aa,e,Y,z⟩:=z;refine X1lp a (boolW.out z) λb z=>?_;exact⟨b,rfl,Aa,e,Y,z⟩)⟩
theorem Sd.no{e:E}:Sd S k e ⟨λZ Z Z Z=>False,λZ Z Z=>False⟩ X:=⟨λZ Z Z Z Z Z Z h=>h.elim,λZ Z Z Z Z Z h=>h.elim⟩
set_option tactic.hygienic true in
theorem few.out{α:Type}{l:List α}{P:Prop}(h:few l P):l.length<15/\P:=by
 unfold few at h
 split at h
 .rename_i q;exact⟨eA.mp q,h⟩
 .exact h.elim
theorem KH{n:Nat}(h:n<15):n<=big:=aw (dE h) (by decide)
theorem tup_ok{es:List E}{fs:List WT}(d:SdL S k X es fs):Sd S k (.tup es) (Internal.vt λZ m V K=>few es (I2 fs m V (λl V'=>K (.tup l) V'))) X :=
 Sd.vt rfl λF B mu m V K o h=>by
  refine Ao h.out λU h=>?_;exact ET.tup (DK B d o Sub.rfl h λa Aa Ac Y O z y=>⟨by rw[z];exact KH U,Aa,O,Y,y⟩)
theorem list_ok{es:List E}{fs:List WT}(d:SdL S k X es fs):Sd S k (.list es) (Internal.vt λmu m V K=>few es (I2 fs m V (λl V'=>frW mu (.list l) (.list l) V' K))) X :=
 Sd.vt rfl λF B mu m V K o h=>by
  refine Ao h.out λU h=>?_;exact ET.list (DK B d o Sub.rfl h λa Aa Ac Y O z y=>⟨by rw[z];exact KH U,y.freshS Y O⟩)
theorem pairsX{F:Fx S}{m:Vars}{X O:Value->af->Prop}{Q:List (AV×AV)->Store->Prop}(x:∀e s,X e s->O e s):∀{ks vs:List E}{r:List (AV×AV)}{V:Store},E1 F m X Q ks vs r V->E1 F m O Q ks vs r V
 |[],[],_,_,h=>h
 |_::_,_::_,_,_,h=>(ET.monoX h x).mono λa Aa q=>(ET.monoX q x).mono λb z q=>pairsX x q
 |[],_::_,_,_,h=>h.elim
 |_::_,[],_,_,h=>h.elim
set_option tactic.hygienic true in
theorem dict_ok{ks vs:List E}{fs gs:List WT}(d:SdL S k BZ ks fs)(Y:SdL S k BZ vs gs):Sd S k (.dict ks vs) (Internal.vt λmu m V K=>(match bV ks.length vs.length && gE ks.length 15 with
  |true=>pairW fs gs [] m V (λps V'=>dictW mu ps V' K)
  |false=>False)) X :=
 Sd.vt rfl λF hk mu m V K o h=>by
  split at h
  .rename_i q
   refine Ao (aG.mp q) λu B=>?_;have u:=bt u;have B:=eA.mp B;have T:∀{F':Fx S}(ps:List (AV×AV))(Aa:LS)(Ac:Store),okS Aa->Sub Aa Ac->dictW mu ps Aa K->∃l,mkD ps []=some l/\ps.length<=15/\Fresh Ac (.dict l) (.dict l) (Up K):=λ{F'} ps Aa Ac U O y=>by
    unfold dictW at y
    split at y
    .rename_i z
     split at y
     .rename_i l e;exact⟨l,e,ij.mp z,y.freshS U O⟩
     .exact y.elim
    .exact y.elim
   induction d using SdL.casesOn with
   |nil =>
    induction Y using SdL.casesOn with
    |nil =>
     refine X1ppp (T (F':=F) [] V (Au V) o Sub.rfl h) λl e Z hf=>?_;obtain rfl:=ae e;exact ET.dict0 hf
    |cons _ _=>cases u
   |cons d t =>
    induction Y using SdL.casesOn with
    |nil=>cases u
    |cons Y t' =>
     refine(ET.dict (X:=NoX) (fe u) (Nat.lt_of_succ_lt B) λF' lk=>?_).monoX λZ Z z=>z.elim;exact pairsX (λZ Z x=>noUp x) (pairW_ok (F:=F') (by rw[lk.2.2.2];exact hk) (λps Aa Ac U O y=>T (F':=F') ps Aa Ac U O y) (.cons d t) (.cons Y t') o Sub.rfl h)
  .exact h.elim
theorem bin_ok{op:gR}{l r:E}{f g:WT}(d:Sd S k l f X)(O:Sd S k r g X)(Y:∀n:Int,r=.int n->g=Internal.vt λZ Z V K=>K (.int n) V):Sd S k (.bin op l r) (Internal.vt λmu m V K=>f.v aa m V (λa Aa=>g.v aa m Aa (λb Ab=>binW (lit r) mu op a b Ab K))) X :=
 Sd.vt rfl λF B mu m V K o h=>ET.bin (d.on B o Sub.rfl h λa Aa Ac U u T=>by
  by_cases q:lit r=true
  .refine X1pp (lit_pos q) λn e hn=>?_
   rw[Y _ e]at T;clear O Y h q;subst e;exact ET.int (BT.less u (LW U (λZ y e=>by cases e;exact⟨λz0=>lin [n] [] .no [.h (.c (.A V0 K1)) K0] rfl z0,by omega⟩) T))
  .exact O.on B U u T λb Ab Aj AI Aw Ah=>BT.less Aw (LW AI (λz=>absurd z q) Ah))
theorem sub_ok{l r:E}{f g:WT}(d:Sd S k l f X)(Y:Sd S k r g X)(T:∀n:Int,r=.int n->g=Internal.vt λZ Z V K=>K (.int n) V):Sd S k (.sub l r) (Internal.vt λZ m V K=>f.v aa m V (λa Aa=>g.v aa m Aa (λb u=>subW (lit0 r) a b u K))) X :=
 Sd.vt rfl λF B mu m V K o h=>ET.sub (d.on B o Sub.rfl h λa Aa Ac U O y=>by
  by_cases q:lit0 r=true
  .refine X1pp (lit0_pos q) λn e hn=>?_
   rw[T _ e]at y;clear Y T h q;subst e;exact ET.int (IT.less O (JS (λZ=>⟨n,rfl,hn⟩) U y))
  .exact Y.on B U O y λb u Aj AI Aw Ah=>IT.less Aw (JS (λz=>absurd z q) AI Ah))
theorem neg_ok{x:E}{f:WT}(d:Sd S k x f X):Sd S k (.neg x) (Internal.vt λZ m V K=>f.v aa m V (λa Aa=>match a with
  |.int i=>K (.int (-i)) Aa
  |_=>False)) X :=
 Sd.vt rfl λF B mu m V K o h=>ET.neg (d.on B o Sub.rfl h λa Aa Ac Y O y=>by
  cases a with|int i=>exact⟨i,rfl,Aa,O,Y,y⟩|_=>exact y.elim)
theorem not_ok{x:E}{f:WT}(d:Sd S k x f X):Sd S k (.not x) ⟨λZ m V K=>f.v aa m V (λa Aa=>boolW a λb=>K (.bool (!b)) Aa),λm V K=>f.t m V (λb Aa=>K (!b) Aa)⟩ X :=
 ⟨λF B mu m V K o h=>ET.not (d.on B o Sub.rfl h λa Aa Ac Y O y=>by
  refine X1lp a (boolW.out y) λb y=>?_;exact⟨b,rfl,Aa,O,Y,y⟩),λF B m V K o h=>TT.not (d.onT B o Sub.rfl h λa Aa Ac Y O y=>⟨Aa,O,Y,y⟩)⟩
theorem KT.mono{F:Fx S}{m:Vars}{V:Store}{X:Value->af->Prop}{op:CmpOp}{a b:AV}{Q z:Bool->Store->Prop}(h:KT F m V op a b Q X)(k:∀b V,Q b V->z b V):KT F m V op a b z X :=
 λU B s hs u T=>(h U B s hs u T).mono λ_ _ _ _ _ ⟨c,e,q⟩=>⟨c,e,k _ _ q⟩
theorem cmp_ok{op:CmpOp}{l r:E}{f g:WT}(d:Sd S k l f X)(d':Sd S k r g X):Sd S k (.cmp op l r) ⟨λZ m V K=>f.v aa m V (λa Aa=>g.v aa m Aa (λb B=>cmpW op a b B λt=>K (.bool t) B)),
   λm V K=>f.v aa m V (λa Aa=>g.v aa m Aa (λb B=>cmpW op a b B λt=>K t B))⟩ X :=
 ⟨λF y mu m V K o h=>ET.cmp (d.on y o Sub.rfl h λa Aa Ac O U u=>d'.on y O U u λb B Aj AI Y T=>KT.mono (KT.less Y (FD (K:=λt V=>K (.bool t) V) AI T)) λt BI z=>by obtain⟨Ar,CI,Ff,z⟩:=z;exact⟨Ar,CI,Ff,z⟩),
 λF y m V K o h=>TT.cmp (d.on y o Sub.rfl h λa Aa Ac O U u=>d'.on y O U u λb B Aj AI Y T=>KT.less Y (FD AI T))⟩
theorem cmp2_ok{u Y:CmpOp}{a b c:E}{f g h:WT}(d:Sd S k a f X)(d':Sd S k b g X)(d2:Sd S k c h X):Sd S k (.cmp2 u Y a b c) ⟨λZ Z Z Z=>False,λm V K=>f.v aa m V (λx Aa=>g.v aa m Aa (λy U=>cmpW u x y U λt=>ifW t (h.v aa m U (λz B=>cmpW Y y z B λt=>K t B)) (K false U)))⟩ X :=
 ⟨λZ Z Z Z Z Z Z h=>h.elim,λF O m V K o q=>TT.cmp2 (d.on O o Sub.rfl q λx Aa Ac Al Af Ad=>d'.on O Al Af Ad λy U Aj AI Aw Ah =>
  KT.mono (KT.less Aw (FD (K:=λt U=>ifW t (h.v aa m U (λz B=>cmpW Y y z B λt=>K t B)) (K false U)) AI Ah)) λt BI z=>by
    obtain⟨B,CI,T,z⟩:=z
    cases t with|true=>exact d2.on O T CI z λz Cj Bv Km F5 Br=>KT.less F5 (FD Km Br)|false=>exact⟨B,CI,T,z⟩)⟩
theorem ite_ok{c a b:E}{f g h:WT}(d:Sd S k c f X)(d':Sd S k a g X)(d2:Sd S k b h X):Sd S k (.ite c a b) ⟨λmu m V K=>f.t m V (λt Aa=>ifW t (g.v mu m Aa K) (h.v mu m Aa K)),λZ Z Z=>False⟩ X :=
 ⟨λF B mu m V K o q=>ET.ite (d.onT B o Sub.rfl q λt Aa Ac U O u=>by
  cases t with|true=>exact d'.on B U O u λa z Aj T Y y=>⟨z,Y,T,y⟩|false=>exact d2.on B U O u λa z Aj T Y y=>⟨z,Y,T,y⟩),λZ Z Z Z Z Z h=>h.elim⟩
theorem fget_t{t o:AV}:Lo (FJ t o) "texts"=some t:=by
 have e:(("texts":Str) == "texts")=true:=by decide +kernel
 simp only[Lo,FJ,dC,e,dD]
theorem fget_o{t o:AV}:Lo (FJ t o) "own"=some o:=by
 have e:(("texts":Str) == "own")=false:=by decide +kernel
 have y:(("own":Str) == "own")=true:=by decide +kernel
 simp only[Lo,FJ,dC,e,y,dD]
set_option tactic.hygienic true in
theorem attr_ok{i n:Nat}(T:TabOk S W k Φ):Sd S k (.attr (.v i) n) (Internal.vt λZ m V K=>match m.getD i aa with
  |some a=>attrW n a V K
  |aa=>False) X :=
 Sd.vt rfl λF B mu m V K o h=>by
  split at h
  .rename_i a ha
   refine X2pp (instW.out o Sub.rfl h) λt O Y h=>?_
   split at h
   .exact ET.attr T.good.floor T.good.texts (Lm (.inl rfl)) ha Y fget_t h.1 (.now o h.2)
   .exact ET.attr T.good.floor T.good.cells (Lm (.inr rfl)) ha Y fget_o h.1 (.now o h.2)
   .exact h.elim
  .exact h.elim
theorem hasF_ok{i:Nat}(T:TabOk S W k Φ)(h:hasF Φ i=true):W.U i=true/\i≠28:=by
 rcases dc.mp h with q|q
 .have q:=eA.mp q;exact⟨T.good.bu i q,λz=>lin [i] [] .no [.c V0 K17,.D (-1) V0 K28] rfl q z⟩
 .refine X1p (bF.mp q) λf y=>?_;exact(T.fn i f y).1
set_option tactic.hygienic true in
theorem call_ok{i:Nat}{e:E}{es:List E}{fs:List WT}(T:TabOk S W k Φ)(d:SdL S k X (e::es) fs):Sd S k (.call (.g i) (e::es)) (Internal.vt λmu m V K=>(match hasF Φ i with
  |true=>I2 fs m V (λu Aa=>callW Φ X mu i u Aa K)
  |false=>False)) X :=
 Sd.vt rfl λF B mu m V K o h=>by
  split at h
  .rename_i q
   refine Ao (hasF_ok T q) λY z=>?_;exact ET.callg (T.good.glob i Y) (LO T.good Y z) (J3 B d o Sub.rfl h λa Aa Ac U O y=>CT.less O (callW_ok T B U y).2)
  .exact h.elim
theorem KP{z hi st:E}(h:HV z hi st=true):z=.none/\hi=.none/\st=.neg (.int 1):=by
 unfold HV at h
 cases z with
 |none =>
  cases hi with
  |none =>
   cases st with
   |neg x =>
    dsimp only at h
    cases q:x.nat? with
    |none=>rw[q]at h;exact nF h
    |some n =>
     rw[q]at h;have e:n=1:=bt h;clear h;subst e;refine⟨rfl,rfl,?_⟩
     cases x with
     |int i =>
      cases i with
      |ofNat m=>obtain rfl:=ae q;rfl
      |negSucc m=>exact nS q
     |_=>exact(Am rfl q).elim
   |_=>exact(aQ h).elim
  |_=>exact(aQ h).elim
 |_=>exact(aQ h).elim
theorem back_ok{e z hi st:E}{f:WT}(d:Sd S k e f X):Sd S k (.slice e z hi st) (Internal.vt λZ m V K=>quiet (HV z hi st) (f.v aa m V (λa Aa=>backW a Aa K))) X :=
 Sd.vt rfl λF B mu m V K o h=>by
  refine Ao (quiet.out h) λq h=>?_;refine X0lll z hi st (KP q) ?_;refine ET.back (d.on B o Sub.rfl h λa Aa Ac Y O y=>?_)
  cases a with
  |tup l =>
   unfold backW at y;dsimp only at y
   cases q2:two? l with|none=>rw[q2]at y;exact y.elim|some p=>rw[q2]at y;rw[two?_out q2];exact⟨_,_,rfl,Aa,O,Y,y⟩
  |_=>exact y.elim
theorem dd_more{V:LS}{s:Store}{a:AV}{l:List (Ag×AV)}(h:dd (Au V) a=some l)(hs:Sub V s):dd s a=some l:=by
 cases a with
 |dict l'=>exact h
 |loc x i =>
  refine X1pp (AD (show (Au V x).bind _=some l from h)) λo Y z=>?_
  show (s x).bind _=some l;rw[hs _ _ Y];exact z
 |_=>exact(Am rfl h).elim
theorem JO{s:Store}{a:AV}{l:List (Ag×AV)}(h:dd s a=some l):tyA s a=some .dict:=by
 cases a with
 |dict l'=>rfl
 |loc x i =>
  refine X1pp (AD (show (s x).bind _=some l from h)) λo Y z=>?_
  unfold tyA;dsimp only;rw[Y]
  cases o with|dict l'=>rfl|_=>exact(Am rfl z).elim
 |_=>exact(Am rfl h).elim
theorem slotD.out{V:LS}{a:AV}{P:Addr->Nat->List (Ag×AV)->Prop}(h:slotD V a P):∃x i l,a=.loc x i/\slot V i=.at x (.dict l)/\P x i l:=by
 cases a with
 |loc x i =>
  unfold slotD at h;dsimp only at h
  cases q:slot V i with
  |no=>rw[q]at h;exact h.elim
  |«at» b o =>
   rw[q]at h
   cases o with
   |dict l=>obtain⟨rfl,h⟩:=h;exact⟨_,_,_,rfl,q,h⟩
   |_=>exact h.elim
 |_=>exact h.elim
structure MC(S:Sta)(k:Nat)(X:XL)(es:List E)(fs:List WT)(F:Fx S):Prop where
 d:SdL S k X es fs
 hk:k<=F.k
inductive MOk(S:Sta)(k n:Nat):Prop
 |mk (nm:Str)(h:ixS AT nm=some n)(r:∀{X:XL}{es:List E}{fs:List WT}{F:Fx S},MC S k X es fs F->∀{m:M}{V:LS}{s:Store}{a:AV}{K:KV},okS V->Sub V s->bmW n fs m a V K->∃t id,Meth nm (Ty.name t) id/\tyA s a=some t/\ArgsT F (vr m) s es (λavs Ab=>CT F (vr m) Ab (.builtin id) (a::avs) (Up K) (XF F (vr m) (Up X))) (XF F (vr m) (Up X))):MOk S k n
theorem JN{V:LS}{s:Store}{x:Addr}{i:Nat}{l:List AV}(o:okS V)(hs:Sub V s)(z:slot V i=.at x (.list l)):tyA s (.loc x i)=some .list:=by
 unfold tyA;dsimp only;rw[hs.at o z]
theorem MOk.lst{n:Nat}{nm:Str}{U:String}(Y:ixS AT nm=some n)(O:Meth nm (Ty.name .list) U)(B:∀{fs:List WT}{m:M}{a:AV}{V:LS}{K:KV},bmW n fs m a V K->slotL V a λZ Z Z=>I2 fs m V (λu T=>methW n a u T K))
  (y:∀{F:Fx S}{m:Vars}{X:Value->af->Prop}{a:AV}{u:List AV}{V:LS}{K:KV},okS V->methW n a u V K->CT F m (Au V) (.builtin U) (a::u) (Up K) X):MOk S k n :=
 ⟨nm,Y,λc m V s a K o hs h=>by
  refine X3ppp (slotL.out (B h)) λx i l Z0 z h=>?_;subst Z0;exact⟨.list,U,O,JN o hs z,Cz c.hk c.d o hs h λu T Aj AI Aw Ah=>CT.less Aw (y AI Ah)⟩⟩
theorem m0_ok:MOk S k 0:=.lst KO GZ (λh=>h) λo h=>by
 refine X1pp (Cl h) λx U h=>?_;subst U;refine X3pppp (slotL.out h) λad i l u z T O=>?_;clear h;subst u;exact CT.append (Av o z) T (.upd o z O)
theorem m1_ok:MOk S k 1:=.lst ix_pop meth_pop (λh=>h) λo h=>by
 refine Ao (nil_of h) λu h=>?_;subst u;refine X3pppp (slotL.out h) λad i l U z T B=>?_;refine X1pp B λx O Y=>?_;clear h;subst U;exact CT.pop (Av o z) O T (.upd o z Y)
theorem m2_ok:MOk S k 2:=.lst KN GX (λh=>h) λo h=>by
 refine X2pp (Hy h) λi x u h=>?_;subst u;obtain⟨ad,j,l,rfl,z,h⟩:=slotL.out h
 cases i with|int y=>exact CT.insert (Av o z) h.2.1 h.1.1 h.1.2 (.upd o z h.2.2)|_=>exact h.elim
theorem m3_ok:MOk S k 3:=⟨_,ix_clear,λc m V s a K o hs h=>by
 obtain⟨d,_⟩:=c
 induction d using SdL.casesOn with
 |nil =>
  cases slotC.out h with|l x i l z q=>exact⟨.list,_,Ji,JN o hs z,CT.less hs (CT.clear (Av o z) q.1 (.upd o z q.2))⟩|d x i l z q=>exact⟨.dict,_,GY,JO (CQ (hs.at o z)),CT.less hs (CT.clearD (Av o z) q.1 (.upd o z q.2))⟩
 |cons _ _=>exact h.elim⟩
theorem m6_ok:MOk S k 6:=⟨_,ix_get,λc m V s a K o hs h=>by
 refine X1pp (ddW.out o h) λl z h=>?_;refine⟨.dict,_,meth_get,JO (dd_more z hs),Cz c.hk c.d o hs h λu y U T B Y=>CT.less B ?_⟩;refine X1lp u (Cl Y) λb Y=>?_;refine X1pp (ddW.out T Y) λl O Y=>?_;refine X1lp b (spotW.out Y) λkk Y=>?_;exact CT.get O (.now T Y)⟩
theorem m8_ok:MOk S k 8:=⟨_,ix_join,λc m V s a K o hs h=>by
 cases a with
 |str x =>
  refine⟨.str,_,KC,rfl,Cz c.hk c.d o hs h λu Ab Aj T Aw Y=>CT.less Aw ?_⟩;refine X1lp u (Cl Y) λb Y=>?_;refine X1pp (dlW.out T Y) λl B z=>?_;refine X1ppp z λys y O U=>?_;clear z;subst y;exact CT.join B O (.now T U)
 |_=>exact h.elim⟩
theorem isMe_ok{n:Nat}(h:isMe n=true):MOk S k n:=by
 match n,h with
 |0,_=>exact m0_ok
 |1,_=>exact m1_ok
 |2,_=>exact m2_ok
 |3,_=>exact m3_ok
 |6,_=>exact m6_ok
 |8,_=>exact m8_ok
theorem flds_in{t o:AV}{p:Str×AV}(h:p∈FJ t o):p.1 = "texts"\/p.1 = "own":=by
 refine JF p h ?_ λh=>?_
 .exact .inl rfl
 .refine JF p h ?_ λh=>?_
  .exact .inr rfl
  .exact nM h
theorem meth_ok{e:E}{n:Nat}{es:List E}{f:WT}{fs:List WT}(T:TabOk S W k Φ)(d:Sd S k e f X)(d':SdL S k X es fs):Sd S k (.meth e n es) (Internal.vt λmu m V K=>ifW (isMe n) (f.v aa m V (λa Aa=>bmW n fs m a Aa K)) (omW (GE Φ.me n) f fs mu X m V K)) X :=
 Sd.vt rfl λF B mu m V K o h=>by
  cases q:isMe n with
  |true =>
   rw[q]at h;obtain⟨nm,h1,r⟩:=isMe_ok (S:=S) (k:=k) q;exact ET.meth h1 (d.on B o Sub.rfl h λa Aa Ac Y O y=>r ⟨d',B⟩ Y O y)
  |false =>
   rw[q]at h
   cases hf:GE Φ.me n with
   |none=>rw[hf]at h;exact h.elim
   |some f' =>
    rw[hf]at h;refine X1pp (T.me n f' hf) λfa hfa z=>?_;refine X1pppppp (T.good.meth n fa hfa) λnm hn n1 n2 u ht U=>?_;refine ET.method T.good.floor hn u ht U (d.on B o Sub.rfl h λa Aa Ac Y O y=>?_);refine X2pp (instW.out Y O y) λt ow h5 y=>?_;refine⟨⟨_,h5,Ln (λp hp=>flds_in hp) n1 n2⟩,Cz B d' Y O y λavs Ab Aj AI Aw Ah=>CT.less Aw ?_⟩;refine X2pp (instW.out AI Aw Ah) λZ Z Z Ah=>?_;exact z F B (vr m) mu _ Ab K X AI Ah
theorem comp_ok{u B:E}{i:Nat}{U:List E}{f g:WT}{fs:List WT}(T:TabOk S W k Φ)(ds:Sd S k B g X)(d:Sd S k u f BZ)(y:SdL S k BZ U fs):Sd S k (.comp u i B U) (Internal.vt λmu m V K=>g.v aa m V (λa Aa=>iterW Φ.q a Aa (λitems ok Ab=>items.length<=big/\D7 i (f.v aa) (GF fs) ok m (λO Ar=>frW mu (.list O) (.list O) Ar K) items [] Ab))) X :=
 Sd.vt rfl λF Y mu m V K o h=>ET.comp (FA T Y ds d y o (λZ Z z=>z) h)
set_option tactic.hygienic true in
theorem v_ok{i:Nat}:Sd S k (.v i) (Internal.vt λZ m V K=>match m.getD i aa with
  |some a=>K a V
  |aa=>False) X :=
 Sd.vt rfl λF B mu m V K o h=>by
  split at h
  .rename_i a ha;exact ET.v ha (.now o h)
  .exact h.elim
set_option tactic.hygienic true in
theorem g_ok{i:Nat}(T:TabOk S W k Φ):Sd S k (.g i) (Internal.vt λZ Z V K=>gW Φ i V K) X :=
 Sd.vt rfl λF B mu m V K o h=>by
  unfold gW at h
  split at h
  .rename_i q
   have q:=bt q;subst q
   split at h
   .rename_i z
    refine X1p T.good.six λt e=>?_;have d:=T.good.glob 28 (T.ex 28 z);rw[e]at d;exact ET.g_int d (.now o h)
   .exact h.elim
  .split at h
   .rename_i q
    have y:W.U i=true:=by
     rcases dc.mp q with q|q
     .exact T.good.bu i (eA.mp q)
     .exact T.ex i q
    exact ET.cls (T.good.glob i y) (.now o h)
   .exact h.elim
set_option tactic.hygienic true in
theorem JX{x:E}{g:WT}{i:Nat}(T:TabOk S W k Φ)(d:Sd S k x g X):Sd S k (.sorted x (.g i)) (Internal.vt λmu m V K=>match GE Φ.ky i with
  |some f=>g.v aa m V (λa Aa=>dlW Aa a λL=>sortW f mu L Aa K)
  |aa=>False) X :=
 Sd.vt rfl λF U mu m V K o h=>by
  split at h
  .rename_i f hf
   refine Ao (T.ky i f hf) λhu Z0=>?_;refine X2ppp Z0 λfa kf e O Y=>?_;have u:=T.good.glob i hu;rw[e]at u;have B:=T.good.glob 10 (T.good.bu 10 (by decide))
   rw[T.good.base 10 (by decide)]at B
   refine ET.sorted (key:=Du f) u B (aw O U) (d.on U o Sub.rfl h λa Aa Ac z y Ad=>?_);obtain⟨L,hl,⟨h1,h2,h3⟩,h4⟩:=dlW.out z Ad;refine⟨L,?_,λx hx=>Y x (h1 x hx) x (.head _),h2,h3,λL' p1 p2=>?_⟩
   .exact LD hl y
   .exact frW.freshS z y (h4 L' ⟨p1,p2⟩)
  .exact h.elim
mutual
theorem AJ(T:TabOk S W k Φ):∀(e:E)(X:XL),Sd S k e (wp Φ e X) X
 |.none,X=>Sd.vt rfl λF B mu m V K o h=>ET.none (.now o h)
 |.bool b,X=>Sd.vt rfl λF B mu m V K o h=>ET.bool (.now o h)
 |.int b,X=>Sd.vt rfl λF B mu m V K o h=>ET.int (.now o h)
 |.str b,X=>Sd.vt rfl λF B mu m V K o h=>ET.str (.now o h)
 |.v i,X=>v_ok
 |.g i,X=>g_ok T
 |.tup es,X=>tup_ok (Bw T es X)
 |.list es,X=>list_ok (Bw T es X)
 |.dict ks vs,X=>dict_ok (Bw T ks BZ) (Bw T vs BZ)
 |.bin op l r,X=>bin_ok (AJ T l X) (AJ T r X) λn e=>by rw[e];rfl
 |.neg x,X=>neg_ok (AJ T x X)
 |.not x,X=>not_ok (AJ T x X)
 |.and es,X=>⟨λF B mu m V K o h=>ET.and (andV_ok B (Bw T es X) o Sub.rfl h),λF B m V K o h=>TT.and (andT_ok B (Bw T es X) o Sub.rfl h)⟩
 |.or es,X=>⟨λF B mu m V K o h=>ET.or (orV_ok B (Bw T es X) o Sub.rfl h),λF B m V K o h=>TT.or (orT_ok B (Bw T es X) o Sub.rfl h)⟩
 |.cmp op l r,X=>cmp_ok (AJ T l X) (AJ T r X)
 |.cmp2 _ _ a b c,X=>cmp2_ok (AJ T a X) (AJ T b X) (AJ T c X)
 |.ite c a b,X=>ite_ok (AJ T c X) (AJ T a X) (AJ T b X)
 |.sub l r,X=>sub_ok (AJ T l X) (AJ T r X) λn e=>by rw[e];rfl
 |.slice o z hi st,X=>by
  exact back_ok (AJ T o X)
 |.attr o n,X=>by
  cases o<;>first|exact Sd.no|exact attr_ok T
 |.call f es,X=>by
  cases f<;>first|exact Sd.no|(cases es<;>first|exact Sd.no|exact call_ok T (.cons (AJ T _ X) (Bw T _ X)))
 |.sorted x f,X=>by
  cases f<;>first|exact Sd.no|exact JX T (AJ T x X)
 |.meth o n es,X=>meth_ok T (AJ T o X) (Bw T es X)
 |.comp u i Y U,X=>comp_ok T (AJ T Y X) (AJ T u BZ) (Bw T U BZ)
 |.mu l e,X=>⟨λF B mu m V K o h=>ET.mu ((AJ T e X).v F B (some l) m V K o h),λF B m V K o h=>TT.mu ((AJ T e X).t F B m V K o h)⟩
theorem Bw(T:TabOk S W k Φ):∀(es:List E)(X:XL),SdL S k X es (wpL Φ es X)
 |[],_=>.nil
 |e::es,X=>.cons (AJ T e X) (Bw T es X)
end
end
end
section
variable {S:Sta}{W:Wd}
theorem ST.raise{F:Fx S}{m:Vars}{V:Store}{K:Fl->Vars->Store->Prop}{X:KX}{i:Nat}{t:Str}(G:Good S W)(hu:W.U i=true)(h1:18<=i)(h2:i<=27)(hq:S.hx=aa)(hX:X i V):ST F m V (.raise (.call (.g i) [.str t])) K (XR F X):=by
 refine X5pppp (G.exc i h1 h2 hu) λx C bm nid ini hix B O FB=>?_;refine X6p O.obj λtl N nm qn bs hdct Z3=>?_;refine X6p Z3 λsn sub ab col dd k0 Z4=>?_;refine X5pppp Z4 λk1 k2 k3 k5 mN hC hN d T=>?_;have h':EsT F m V [.str t] (λl V'=>l.length=1/\V'=V) (XR F X):=EsT.cons (ET.str (EsT.nil ⟨rfl,rfl⟩));intro st hc s hs;refine X2pp hc.inv λZ Z Z0 he=>?_;clear hc;subst Z0;refine X4pppp he.inv λx' q y p' Z1 Z hx ha=>?_;subst Z1;have u:=h' _ p' ha s hs;refine X2pppp ha.inv λZ Z Z2 hn Z Z=>?_;subst Z2
 refine wpAny_Raise_call_subT (C:=C) (nm:=nm) (q:=qn) (N:=N) (bs:=bs) (bm:=tl) (hdct:=hdct) (sn:=sn) (sub:=sub) (ab:=ab) (col:=col) (dd:=dd) (k0:=k0) (k1:=k1) (k2:=k2) (k3:=k3) (k5:=k5)
  FB (mN:=mN) (T.hasType FB.hasBase) (F.room.quiet hq) (GU ha) d (Dj hx (G.glob i hu) hs ⟨B,?_⟩)
 rw[AQ hn]at u ⊢;refine Calls.evalArgs_plain (Internal.W.out u ?_);intro z V' s' st' Y hR1;obtain⟨avs,r,hl,rfl⟩:=hR1;refine⟨rfl,by have:=r.length;show z.length<=_;rw[this,hl];decide,Y.inv.keep _ _ hC,hN.keeps Y.inv.keep,T.keeps Y.inv.keep,λhh e hm=>?_⟩
 exact⟨e,i,_,s',m,rfl,Y,hX,.inr ⟨_,by rw[B];exact hm,rfl,rfl,rfl⟩⟩
structure Xo(F:Fx S)(X:XL)(Y:Value->af->Prop):Prop where
 up:∀e s,XR F (Up X) e s->Y e s
 pass:gU (model S.prog S.w) F.A F.env Y
theorem Xo.xf{F:Fx S}{X:XL}{Y:Value->af->Prop}(x:Xo F X Y){m:Vars}(e:Value)(s:af)(h:XF F m (Up X) e s):Y e s:=x.up e s h.up
def SdS(S:Sta)(k:Nat)(st:Internal.S)(f:M->LS->KS->Prop)(X:XL):Prop:=∀F:Fx S,k<=F.k->∀Y,Xo F X Y->∀m V K,okS V->f m V K->ST F (vr m) (Au V) st (UpS K) Y
def SdSs(S:Sta)(k:Nat)(ss:List Internal.S)(f:M->LS->KS->Prop)(X:XL):Prop:=∀F:Fx S,k<=F.k->∀Y,Xo F X Y->∀m V K,okS V->f m V K->SsT F (vr m) (Au V) ss (UpS K) Y
theorem Sub.set{V:LS}{s:Store}{i:Nat}{a:Addr}{o p:AObj}(k:okS V)(h:Sub V s)(q:slot V i=.at a o):okS (V.set i (.at a p))/\Sub (V.set i (.at a p)) (s.set a p):=by
 have f:Fits V i (.at a p):=λZ Z e=>by cases e;exact .inr ⟨o,q⟩
 refine⟨Dh k f,λb r e=>?_⟩
 have:=E8 k f b r e
 by_cases z:b=a
 .clear q f e;subst z;rw[Store.set_self]at this ⊢;exact this
 .rw[Store.set_ne _ _ z]at this ⊢;exact h _ _ this
inductive PatK(s:Store)(K:M->Prop)(m':Vars)(s':Store):Prop
 |mk (m:M)(em:m'=vr m)(es:s'=s)(h:K m):PatK s K m' s'
set_option tactic.hygienic true in
mutual
theorem GO{F:Fx S}{q:Bool}{Y:Value->af->Prop}{s:Store}(hq:q=true->S.hx=aa):∀{p:Pat}{a:AV}{m:M}{K:M->Prop},patW q p a m K->PT F (vr m) s p a (PatK s K) Y
 |.v i,a,m,K,h=>PT.v ⟨_,(Eo m i a).symm,rfl,h⟩
 |.tup ps,a,m,K,h=>by
  refine Ao (quiet.out h) λe h=>?_
  cases a with
  |tup l =>
   dsimp only at h
   split at h
   .rename_i z;exact PT.tup (hq e) (bt z) (Fe hq h)
   .exact h.elim
  |list l =>
   dsimp only at h
   split at h
   .rename_i z;exact PT.list (hq e) (bt z) (Fe hq h)
   .exact h.elim
  |_=>exact h.elim
theorem Fe{F:Fx S}{q:Bool}{Y:Value->af->Prop}{s:Store}(hq:q=true->S.hx=aa):∀{ps:List Pat}{l:List AV}{m:M}{K:M->Prop},patsW q ps l m K->PTs F Y (PatK s K) ps l (vr m) s
 |[],[],m,K,h=>⟨m,rfl,rfl,h⟩
 |p::ps,a::as,m,K,h=>λpe d v u hs r=>aJ (GO hq h pe d v u hs r) (λ_ u' ⟨m',s',st,h',⟨mm,em,es,q⟩⟩=>by
   subst em;clear hs r;subst es;exact⟨_,_,st,h',Fe hq q⟩) λZ Z e=>e
 |[],_::_,_,_,h=>h.elim
 |_::_,[],_,_,h=>h.elim
end
theorem st_no:∀{V:LS}{i:Nat}{a:Addr}{o:AObj},okS V->slot V i=.at a o->Au (V.set i .no) a=aa/\∀b p,Au (V.set i .no) b=some p->Au V b=some p
 |[],i,a,o,_,h=>by cases i<;>cases h
 |x::r,0,a,o,k,h=>by
  have e:x=.at a o:=h;clear h;subst e;refine⟨k.1,λb p q=>?_⟩;have q:Au r b=some p:=q
  by_cases z:b=a
  .rw[z,k.1]at q;exact nS q
  .exact(if_neg z).trans q
 |.no::r,i+1,a,o,k,h=>st_no (V:=r) (i:=i) k h
 |.at c q::r,i+1,a,o,k,h=>by
  refine Ao (st_no (V:=r) (i:=i) k.2 h) λY y=>?_;have ne:a≠c:=λe=>by have:=Av k.2 (show slot r i=.at a o from h);rw[e,k.1]at this;exact nS this
  refine⟨(if_neg ne).trans Y,λb p z=>?_⟩;have z:(if b=c then some q else Au (r.set i .no) b)=some p:=z;show (if b=c then some q else Au r b)=some p
  by_cases e:b=c
  .rw[if_pos e]at z ⊢;exact z
  .rw[if_neg e]at z ⊢;exact y b p z
theorem Hc{i:Nat}{a:Addr}{v:AV}:∀{m:M}{K:M->Prop},frzM i a v m K->∃m',K m'/\∀n av,vr m' n=some av->vr m n=some av\/(∃j,vr m n=some (.loc a j))/\av=v
 |[],K,h=>⟨[],h,λZ Z e=>.inl e⟩
 |x::r,K,h=>by
  have B:∀{x:Option AV},(frzM i a v r λm=>K (x::m))->∃m',K m'/\∀n av,vr m' n=some av->vr (x::r) n=some av\/(∃j,vr (x::r) n=some (.loc a j))/\av=v:=λ{x} h=>by
   refine X1pp (Hc h) λm' U O=>?_;exact⟨x::m',U,λn av e=>by cases n with|zero=>exact .inl e|succ n=>exact O n av e⟩
  cases x with
  |none=>exact B h
  |some x =>
   cases x with
   |loc b j =>
    unfold frzM at h;dsimp only at h
    cases q:bV j i with
    |false=>rw[q]at h;exact B h
    |true =>
     rw[q]at h;refine X0lp b h λh=>?_;refine X1pp (Hc h) λm' U O=>?_;exact⟨some v::m',U,λn av e=>by cases n with|zero=>exact .inr ⟨⟨j,rfl⟩,(ae e).symm⟩|succ n=>exact O n av e⟩
   |_=>exact B h
set_option tactic.hygienic true in
theorem frzS_ok{F:Fx S}{mu:Option Nat}{m:M}{V:LS}{s:Store}{K:KS}(o:okS V)(hs:Sub V s)(h:frzS mu m V (K .next)):∃As Ab,(∀u,F.St (vr m) s u->F.St As Ab u/\Step F.P F.O s u Ab u)/\UpS K .next As Ab:=by
 cases mu with
 |none=>exact⟨_,_,λu z=>⟨z,Step.refl _ _ _ _⟩,m,V,rfl,hs,o,h⟩
 |some i =>
  unfold frzS at h;dsimp only at h
  cases q:slot V i with
  |no=>rw[q]at h;exact h.elim
  |«at» a y =>
   rw[q]at h
   cases y with
   |dict l =>
    refine X1pp (Hc h) λm' U B=>?_;refine Ao (st_no o q) λY d=>?_;refine⟨vr m',s.del a,λu z=>St.frz (View.dict (hs.at o q)) z B,m',_,rfl,λb p e=>?_,Dh o (λZ Z e=>by cases e),U⟩
    have ne:b≠a:=λz=>by rw[z,Y]at e;exact nS e
    exact(if_neg ne).trans (hs _ _ (d b p e))
   |_=>exact h.elim
theorem SsT.less{F:Fx S}{m:Vars}{V:LS}{s:Store}{O:List Internal.S}{K:Fl->Vars->Store->Prop}{Y:Value->af->Prop}(hs:Sub V s)(h:SsT F m (Au V) O K Y):SsT F m s O K Y:=h.weak (λZ Z e=>e) hs
theorem DY{k:Nat}{F:Fx S}{q:Bool}{p:Pat}{body:List Internal.S}{f:M->LS->KS->Prop}{X:XL}{Y:Value->af->Prop}{ok:Option Nat}{T:Store->Store->Prop}{I:LS->Prop}{K:KS}(hq:q=true->S.hx=aa)(d:SdSs S k body f X)(hk:k<=F.k)(hY:Xo F X Y)(tn:Turn ok T I) :
  ∀{items:List AV}{m:M}{V:LS}{s:Store},okS V->Sub V s->I V->Jq q p f ok K items m V->L8 F p body T (UpS K) Y items (vr m) s
 |[],m,V,s,o,hs,_,h=>⟨m,V,rfl,hs,o,h⟩
 |x::r,m,V,s,o,hs,hi,h=>by
  intro pe hc v u hu rx;refine aJ (GO (Y:=Y) hq h pe hc v u hu rx) ?_ λZ Z e=>e;intro _ u' U;obtain⟨m',s',st,h',⟨mm,em,es,Ad⟩⟩:=U;subst em;clear hu rx;subst es;refine⟨_,_,st,h',SsT.mono (SsT.less hs (d F hk Y hY mm V _ o Ad)) λfl As Aj z=>?_⟩;obtain⟨m2,Ab,O,y,B,z⟩:=z;subst O
  cases fl with
  |next =>
   obtain⟨⟨h3,h4⟩,h5⟩:=tn.go o B hs y hi z;exact⟨h3,DY hq d hk hY tn B y h4 h5⟩
  |ret v=>exact⟨m2,Ab,rfl,y,B,z⟩
section
variable {k:Nat}{X:XL}{Φ:Tab}
theorem for_ok{p:Pat}{e:E}{body:List Internal.S}{f:WT}{g:M->LS->KS->Prop}(T:TabOk S W k Φ)(d:Sd S k e f X)(y:SdSs S k body g X)(F:Fx S)(B:k<=F.k)(Y:Value->af->Prop)(O:Xo F X Y)(m:M)(V:LS)(K:KS)(o:okS V)
  (h:f.v aa m V (λa Aa=>iterW Φ.q a Aa (λitems ok Ab=>Jq Φ.q p g ok K items m Ab))):ST F (vr m) (Au V) (.for_ p e body) (UpS K) Y :=
 ST.for_ O.pass (SrcT.val ((d.on B o Sub.rfl h λa Aa Ac U z Ad=>by
  obtain⟨items,u,ok,I,it,tn,hi,Ah⟩:=HS (F:=F) T.q U z Ad;exact⟨items,u,it,DY T.q y B O tn U z hi Ah⟩).monoX O.xf))
theorem enum_ok{ps:List Pat}{e:E}{body:List Internal.S}{f:WT}{g:M->LS->KS->Prop}(T:TabOk S W k Φ)(d:Sd S k e f X)(d':SdSs S k body g X)(F:Fx S)(B:k<=F.k)(Y:Value->af->Prop)(O:Xo F X Y)(m:M)(V:LS)(K:KS)(o:okS V)
  (h:f.v aa m V (λa Aa=>enumW Φ.q a Aa (λitems ok Ab=>Jq Φ.q (.tup ps) g ok K items m Ab))):ST F (vr m) (Au V) (.for_ (.tup ps) (.call (.g 9) [e]) body) (UpS K) Y:=by
 have hg:Glob S 9 (.type "enumerate"):=by have:=T.good.glob 9 (T.good.bu 9 (by decide));rw[T.good.base 9 (by decide)]at this;exact this
 refine ST.for_ O.pass (SrcT.enum1 hg (EsT.cons ((d.on B o Sub.rfl h λa Aa Ac U u y=>EsT.nil ⟨a,rfl,?_⟩).monoX O.xf)))
 cases a with
 |str x=>refine Bl (quiet.out y) λe h2 y=>?_;exact⟨T.q e,.inr ⟨x,rfl,h2,DY T.q d' B O (.free λZ Z=>trivial) U u trivial y⟩⟩
 |list l=>refine Ao (quiet.out y) λe y=>?_;exact⟨T.q e,.inl ⟨l,rfl,DY T.q d' B O (.free λZ Z=>trivial) U u trivial y⟩⟩
 |loc x i =>
  unfold enumW at y;dsimp only at y
  cases z:slot Aa i with
  |no=>rw[z]at y;exact y.elim
  |«at» b p =>
   rw[z]at y
   cases p with
   |list l =>
    obtain⟨rfl,y⟩:=y;obtain⟨e,y⟩:=quiet.out y;exact⟨T.q e,.inl ⟨l,BS (u.at U z),DY T.q d' B O .loc U u z y⟩⟩
   |_=>exact y.elim
 |_=>exact y.elim
inductive WInv(I:Nat->M->LS->Prop)(n:Nat)(m':Vars)(s:Store):Prop
 |mk (m:M)(V:LS)(em:m'=vr m)(e:Sub V s)(k:okS V)(h:I n m V):WInv I n m' s
set_option tactic.hygienic true in
theorem while_ok{c:E}{body:List Internal.S}{f:WT}{g:M->LS->KS->Prop}(d:Sd S k c f X)(d':SdSs S k body g X):SdS S k (.while_ c body) (λm V K=>∃I:Nat->M->LS->Prop,(∃n,I n m V)/\∀n m V,I n m V->f.t m V (λt Aa=>ifW t (g m Aa (kWh n I K)) (K .next m Aa))) X:=by
 intro F B Y O m V K o u;obtain⟨I,⟨n,h0⟩,h⟩:=u;refine ST.while_ O.pass (WInv I) ?_ n ⟨m,V,rfl,Sub.rfl,o,h0⟩;intro n m' s u;obtain⟨m,V,rfl,hs,o,hI⟩:=u;refine(d.onT B o hs (h n m V hI) λt Aa Ac Al Af Ad=>?_).monoX O.xf
 cases t with
 |true =>
  rw[if_pos rfl];refine SsT.mono (SsT.less Af (d' F B Y O m Aa _ Al Ad)) λfl As Aj z=>?_;obtain⟨T,Ab,U,Aw,AI,z⟩:=z;subst U
  cases fl with
  |next=>refine X1pp z λn' hn y=>?_;exact⟨n',hn,T,Ab,rfl,Aw,AI,y⟩
  |ret v=>exact⟨T,Ab,rfl,Aw,AI,z⟩
 |false=>rw[if_neg (by decide)];exact⟨m,Aa,rfl,Af,Al,Ad⟩
theorem ST.mu{F:Fx S}{m:Vars}{V:Store}{p:Pat}{e:E}{l:Nat}{K:Fl->Vars->Store->Prop}{Y:Value->af->Prop}(h:ST F m V (.assign p e) K Y):ST F m V (.assign p (.mu l e)) K Y:=λps U s hs=>by
 refine X3lpp ps U.inv λt pe T d O=>?_;exact h _ (.assign d O) s hs
inductive AsgT:List Pat->E->Prop
 |un {ps:List Pat}{e:E}:(FZ e=true\/4<=ps.length)->AK e=true->AsgT ps e
 |two {i j:Nat}{a b:E}:i≠j->(DQ 8 a || DQ 8 b)=true->AsgT [.v i,.v j] (.tup [a,b])
theorem vOf_ok{p:Pat}{i:Nat}(h:vOf p=some i):p=.v i:=by
 cases p with
 |v j=>obtain rfl:=ae h;rfl
 |tup l=>exact nS h
theorem tupOf_ok{e:E}{es:List E}(h:tupOf e=some es):e=.tup es:=by
 cases e with
 |tup l=>obtain rfl:=ae h;rfl
 |_=>exact(Am rfl h).elim
theorem asg3_ok{p q:Pat}{a b:E}(h:asg3 p q a b=true):AsgT [p,q] (.tup [a,b]):=by
 unfold asg3 at h
 cases h1:vOf p with
 |none=>rw[h1]at h;exact nF h
 |some i =>
  rw[h1]at h;dsimp only at h
  cases h2:vOf q with
  |none=>rw[h2]at h;exact nF h
  |some j =>
   rw[h2]at h;refine Ao (aG.mp h) λy B=>?_;rw[vOf_ok h1,vOf_ok h2];refine .two (λe=>?_) B;clear h h2;subst e;rw[Nat.beq_refl]at y;exact nF y
theorem asg2_ok{ps:List Pat}{es:List E}(h:asg2 ps es=true):AsgT ps (.tup es):=by
 unfold asg2 at h
 cases h1:two? ps with
 |none=>rw[h1]at h;exact nF h
 |some d =>
  rw[h1]at h;dsimp only at h
  cases h2:two? es with
  |none=>rw[h2]at h;exact nF h
  |some ab =>
   rw[h2]at h;rw[two?_out h1,two?_out h2];exact asg3_ok h
theorem asgT_ok{ps:List Pat}{e:E}(h:asgT ps e=true):AsgT ps e:=by
 unfold asgT at h
 cases h1:tupOf e with
 |none=>rw[h1]at h;refine Ao (aG.mp h) λy B=>?_;exact .un (.inl y) B
 |some es =>
  rw[h1]at h
  rcases dc.mp h with h|h
  .rw[tupOf_ok h1];exact asg2_ok h
  .refine Ao (aG.mp h) λy B=>?_;exact .un (.inr (bf y)) B
theorem JM{K:KS}{m:M}{j:Nat}(a:AV)(s:Store)(z:Up (λa Aa=>K .next (E9 m j a) Aa) a s):UpS K .next (Vars.set (vr m) j a) s:=by
 obtain⟨Aa,O,Y,z⟩:=z;exact⟨_,Aa,(Eo m j a).symm,O,Y,z⟩
set_option tactic.hygienic true in
theorem pat_up{F:Fx S}{Y:Value->af->Prop}{q:Bool}{K:KS}{m:M}{p:Pat}(hq:q=true->S.hx=aa)(a:AV)(Aa:LS)(Ac:Store)(O:okS Aa)(U:Sub Aa Ac)(T:patW q p a m (λAq=>K .next Aq Aa)):PT F (vr m) Ac p a (λy B=>UpS K .next y B) Y:=λpe d v u hs r =>
 aJ (GO (Y:=Y) hq T pe d v u hs r) (λ_ u' ⟨m',s',st,h',⟨mm,em,es,z⟩⟩=>by
  subst em;clear hs r;subst es;exact⟨_,_,st,h',mm,Aa,rfl,U,O,z⟩) λZ Z e=>e
inductive Cmp:E->Prop
 |c (elt:E)(i:Nat)(src:E)(cs:List E):Cmp (.comp elt i src cs)
 |m (l:Nat)(elt:E)(i:Nat)(src:E)(cs:List E):Cmp (.mu l (.comp elt i src cs))
theorem GS{e:E}(h:DA e=false)(O:notMu e=true):∃elt i src cs,e=.comp elt i src cs:=by
 cases e with|comp a b c d=>exact⟨_,_,_,_,rfl⟩|mu l e=>exact nF O|_=>exact nT h
theorem cmp_of{e:E}(h:AK e=false)(O:notMu2 e=true):Cmp e:=by
 unfold AK at h
 cases e with
 |mu l y =>
  refine X4l y (GS (e:=y) h O) λu i B U=>?_;exact .m _ _ _ _ _
 |comp u i B U=>exact .c _ _ _ _
 |_=>exact nT h
set_option tactic.hygienic true in
theorem LY{p:Pat}{e:E}(T:TabOk S W k Φ):SdS S k (.assign p e) (λm V K=>quiet (asgOk Φ.q p e) ((wp Φ e X).v aa m V (λa Aa=>patW Φ.q p a m (λAq=>K .next Aq Aa)))) X:=by
 intro F U Y O m V K o h;refine Ao h.out λq h=>?_
 cases p with
 |v j =>
  cases hc:AK e with
  |true=>exact ST.assign hc (((AJ T e X).v F U _ m V _ o h).mono JM |>.monoX O.xf)
  |false =>
   cases cmp_of hc q with|c u i B d=>exact ST.assignComp ((FA (mu:=aa) T U (AJ T B X) (AJ T u BZ) (Bw T d BZ) o JM h).monoX O.xf)|m l u i B d=>exact ST.mu (ST.assignComp ((FA (mu:=some l) T U (AJ T B X) (AJ T u BZ) (Bw T d BZ) o JM h).monoX O.xf))
 |tup ps =>
  refine Ao (aG.mp q) λqq q=>?_
  cases asgT_ok q with
  |un n1 n2=>exact ST.unpack n1 n2 (((AJ T e X).on U o Sub.rfl h (pat_up T.q)).monoX O.xf)
  | @two i j a b z q2 =>
   have h:(wp Φ a X).v aa m V (λx Aa=>(wp Φ b X).v aa m Aa (λy Ab=>patW Φ.q (.tup [.v i,.v j]) (.tup [x,y]) m λAq=>K .next Aq Ab)):=h;refine ST.assign2 (T.q qq) z q2 (((AJ T a X).on U o Sub.rfl h λx Aa Ac Al Af Ad=>((AJ T b X).on U Al Af Ad λy Ab Aj AI Aw Ah=>?_).monoX O.xf).monoX O.xf);refine Ao (quiet.out Ah) λZ Ah=>?_;exact⟨_,Ab,by rw[Eo,Eo],Aw,AI,Ah⟩
theorem slotI.out{V:LS}{a:AV}{P:Addr->Nat->Addr->List (Str×AV)->Prop}(h:slotI V a P):∃x i d fs,a=.loc x i/\slot V i=.at x (.inst d)/\slot V (i+1)=.at d (.attrs fs)/\P x i d fs:=by
 cases a with
 |loc x i =>
  have h:(match fields? V i with
   |some f=>(f.1.1=x/\f.2.1=f.1.2)/\P f.1.1 i f.2.1 f.2.2
   |aa=>False):=h
  cases q:fields? V i with
  |none=>rw[q]at h;exact h.elim
  |some f =>
   rw[q]at h;obtain⟨⟨rfl,e⟩,U⟩:=h;refine Ao (fields?_out q) λy B=>?_;exact⟨_,_,_,_,rfl,e▸y,B,U⟩
 |_=>exact h.elim
set_option tactic.hygienic true in
theorem I0{e ob:E}{n:Nat}{f g:WT}(T:TabOk S W k Φ)(d:Sd S k e f X)(d':Sd S k ob g X):SdS S k (.setattr ob n e) (λm V K=>quiet (AK e && (bV n 11 || bV n 12)) (f.v aa m V (λx Aa=>g.v aa m Aa (λa U=>slotI U a λZ i d fs=>fs.length<=100/\K .next m (U.set (i+1) (.at d (.attrs (JG fs (fld n) x)))))))) X:=by
 intro F hk Y hY m V K o h;refine Ao h.out λO h=>?_;have O:AK e=true/\(n=11\/n=12):=by
  refine Ao (aG.mp O) λh1 h2=>?_;exact⟨h1,(dc.mp h2).imp bt bt⟩
 refine ST.setattr T.good.floor (T.good.field O.2) (Lm O.2) O.1 (((d.on hk o Sub.rfl h λx Aa Ac Al Af Ad=>(d'.on hk Al Af Ad λa U Aj y u B=>?_).monoX hY.xf)).monoX hY.xf);obtain⟨b,i,d,fs,rfl,z,z',hz,B⟩:=B.out;obtain⟨Km,F5⟩:=u.set (p:=.attrs (JG fs (fld n) x)) y z';exact⟨b,i,d,fs,rfl,u.at y z,u.at y z',hz,m,_,rfl,F5,Km,B⟩
set_option tactic.hygienic true in
theorem IZ{e y i:E}{f g h:WT}(d:Sd S k e f X)(d':Sd S k y g X)(d2:Sd S k i h X):SdS S k (.setitem y i e) (λm V K=>quiet (AK e) (f.v aa m V (λx Aa=>g.v aa m Aa (λa Ab=>h.v aa m Ab (λk U=>slotD U a λb j l=>l.length<=big/\spotW k λkk=>K .next m (U.set j (.at b (.dict (BH l kk x))))))))) X:=by
 intro F B Y O m V K o q;refine Ao q.out λhn q=>?_;refine ST.setitem hn (((d.on B o Sub.rfl q λx Aa Ac Al Af Ad=>((d'.on B Al Af Ad λa Ab Aj AI Aw Ah=>((d2.on B AI Aw Ah λkk U BI u CI T=>?_).monoX O.xf)).monoX O.xf)).monoX O.xf));obtain⟨b,j,l,rfl,z,hz,T⟩:=T.out;obtain⟨kk,rfl,T⟩:=T.out;refine Ao (CI.set (p:=.dict (BH l kk x)) u z) λKm F5=>?_;exact⟨b,j,l,kk,rfl,rfl,CI.at u z,hz,m,_,rfl,F5,Km,T⟩
theorem E.g?_out{e:E}{i:Nat}(h:e.g?=some i):e=.g i:=by
 cases e with
 |g j=>obtain rfl:=ae h;rfl
 |_=>exact(Am rfl h).elim
theorem E.str?_out{e:E}{i:Str}(h:e.str?=some i):e=.str i:=by
 cases e with
 |str j=>obtain rfl:=ae h;rfl
 |_=>exact(Am rfl h).elim
theorem call1?_out{e:E}{p:Nat×E}(h:call1? e=some p):e=.call (.g p.1) [p.2]:=by
 cases e with
 |call f es =>
  refine X1pp (AD (show f.g?.bind (λi=>(one? es).bind λe=>some (i,e))=some p from h)) λi Y h=>?_
  refine X1pp (AD h) λa z h=>?_;obtain rfl:=ae h;rw[one?_out z,E.g?_out Y]
 |_=>exact(Am rfl h).elim
theorem Jt{e y:E}(h:LC e=some y):e=.call (.g 9) [y]:=by
 refine X1pp (AD h) λp Y h=>?_
 cases q:bV p.1 9 with
 |false=>rw[q]at h;exact nS h
 |true=>rw[q]at h;obtain rfl:=ae h;rw[call1?_out Y,bt q]
theorem xcOf_ok{e:E}{i:Nat}(h:xcOf e=some i):∃t,e=.call (.g i) [.str t]:=by
 refine X1pp (AD h) λp Y h=>?_;refine X1pp (AD h) λt z h=>?_;obtain rfl:=ae h;exact⟨t,by rw[call1?_out Y,E.str?_out z]⟩
set_option tactic.hygienic true in
theorem srcS_ok{p:Pat}{e:E}{body:List Internal.S}{g:M->LS->KS->Prop}(T:TabOk S W k Φ)(U:SdSs S k body g X)(F:Fx S)(B:k<=F.k)(Y:Value->af->Prop)(O:Xo F X Y)(m:M)(V:LS)(K:KS)(o:okS V)
  (h:srcS Φ X p e m V (λitems ok z=>Jq Φ.q p g ok K items m z)):ST F (vr m) (Au V) (.for_ p e body) (UpS K) Y:=by
 unfold srcS at h
 split at h
 .rename_i u y
  split at h
  .rename_i d
   rw[Jt y]
   cases p with|v i=>exact nF d|tup ps=>exact enum_ok T (AJ T u X) U F B Y O m V K o h
  .exact h.elim
 .exact for_ok T (AJ T e X) U F B Y O m V K o h
theorem raise_ok{e:E}(T:TabOk S W k Φ)(F:Fx S)(B:k<=F.k)(Y:Value->af->Prop)(O:Xo F X Y)(m:M)(V:LS)(K:KS)(o:okS V) (h:match xcOf e with
  |some i=>quiet (isXc Φ.ex i) (quiet Φ.q (X i V))
  |aa=>False):ST F (vr m) (Au V) (.raise e) (UpS K) Y:=by
 cases hi:xcOf e with
 |none=>rw[hi]at h;exact h.elim
 |some i =>
  rw[hi]at h;refine Ao (quiet.out h) λu h=>?_;refine X1p (xcOf_ok hi) λt y=>?_;clear hi;subst y;refine Ao (quiet.out h) λe h=>?_;unfold isXc at u;simp only[be,ij]at u;exact λps d s hs=>aJ (ST.raise (K:=UpS K) (X:=Up X) T.good (T.ex i u.1.1) u.1.2 u.2 (T.q e) (.now o h) ps d s hs) (λZ Z z=>z) O.up
mutual
theorem wpS_ok(T:TabOk S W k Φ):∀(st:Internal.S)(X:XL),SdS S k st (wpS Φ st X) X
 |.assign p e,X=>LY T
 |.setattr u n e,X=>I0 T (AJ T e X) (AJ T u X)
 |.setitem u i e,X=>IZ (AJ T e X) (AJ T u X) (AJ T i X)
 |.expr e,X=>λF B Y O m V K o h=>ST.thaw (ST.expr (quiet.out h).1 (((AJ T e X).on B o Sub.rfl (quiet.out h).2 λa Aa Ac z U y=>⟨rfl,frzS_ok z U y⟩).monoX O.xf))
 |.ret e,X=>λF B Y O m V K o h=>ST.ret (((AJ T e X).on B o Sub.rfl h λa Aa Ac z U y=>⟨m,Aa,rfl,U,z,y⟩).monoX O.xf)
 |.ite c a b,X=>λF B Y O m V K o h=>ST.ite (((AJ T c X).onT B o Sub.rfl h λt Aa Ac z U y=>by
  cases t with|true=>exact SsT.less U (BV T a X F B Y O m Aa K z y)|false=>exact SsT.less U (BV T b X F B Y O m Aa K z y)).monoX O.xf)
 |.for_ p e body,X=>λF B Y O m V K o h=>srcS_ok T (BV T body X) F B Y O m V K o h
 |.while_ c body,X=>while_ok (AJ T c X) (BV T body X)
 |.raise e,X=>λF B Y O m V K o h=>raise_ok T F B Y O m V K o h
 |.try_ _ _ _ _,X=>λF B Y O m V K o h=>h.elim
 |.pass,X=>λF B Y O m V K o h=>ST.pass ⟨m,V,rfl,Sub.rfl,o,h⟩
theorem BV(T:TabOk S W k Φ):∀(y:List Internal.S)(X:XL),SdSs S k y (wpSs Φ y X) X
 |[],X=>λF B Y O m V K o h=>SsT.nil ⟨m,V,rfl,Sub.rfl,o,h⟩
 |s::r,X=>λF B Y O m V K o h=>SsT.cons ((wpS_ok T s X F B Y O m V _ o h).mono λfl Aq Ac z=>by
  obtain⟨U,Aa,em,d,u,z⟩:=z;subst em
  cases fl with
  |next=>exact SsT.less d (BV T r X F B Y O U Aa K u z)
  |ret v=>exact⟨U,Aa,rfl,d,u,z⟩)
end
end
end
section
variable {S:Sta}{W:Wd}
theorem RepO.nf{cv:Nat->Value}{h:Heap}{D:Addr->Prop}{o:AObj}{a:Addr}(r:RepO cv h D o a):∃ob,h.get? a=some ob/\∀vs,ob.data≠.fields vs:=by
 induction r using RepO.casesOn with|list e _=>exact⟨_,e,λZ z=>by exact nDf rfl z⟩|dict e _ _ _=>exact⟨_,e,λZ z=>by exact nDf rfl z⟩|inst e _=>exact⟨_,e,λZ z=>by exact nDf rfl z⟩|attrs e _=>exact⟨_,e,λZ z=>by exact nDf rfl z⟩
inductive FrK(Aa V:Store){α:Type}(Q:α->Store->Prop)(v:α)(s:Store):Prop
 |mk (t:Store)(q:Q v t)(s1:∀a o,t a=some o->s a=some o)(s2:∀a o,V a=some o->Aa a=aa->s a=some o)(new:∀a,Dom t a->Dom Aa a\/V a=aa):FrK Aa V Q v s
theorem Bu{V:Store}{a:Addr}{o:AObj}(e:V a=some o):Dom V a:=by unfold Dom;rw[e];simp
theorem Cm{V:Store}{a:Addr}(d:Dom V a):∃o,V a=some o:=by
 cases e:V a with|none=>exact absurd e d|some o=>exact⟨o,rfl⟩
abbrev Hid(Aa V:Store)(a:Addr):Prop:=Dom V a/\¬Dom Aa a
open Classical in
noncomputable def Fn(Aa V t:Store):Store:=λa=>if Hid Aa V a then V a else t a
structure Framed(S:Sta)(N:Addr->Prop)(A:cD)(Aa V:Store)(s:af)(t:Store)(s':af):Prop where
 st:Step (Frm A) noO V s (Fn Aa V t) s'
 i:Inv S N (Fn Aa V t) s'
 d:∀b,DN N (Fn Aa V t) b->DN (λa=>N a\/Hid Aa V a) t b
 nw:∀a,Dom t a->Dom Aa a\/V a=aa
theorem EF{N:Addr->Prop}{A:cD}{k:Nat}{Aa V t:Store}{s s':af}(u:∀a o,Aa a=some o->V a=some o)(O:Room S N k A)(hi:Inv S N V s)
  (st:Step (Frm A) noO Aa s t s') (i:Inv S (λa=>N a\/Hid Aa V a) t s'):Framed S N A Aa V s t s':=by
 have hH:∀{a},Hid Aa V a->Fn Aa V t a=V a:=λh=>if_pos h;have hN:∀{a},¬Hid Aa V a->Fn Aa V t a=t a:=λh=>if_neg h;have Y:∀{a},Dom Aa a->Dom V a:=λd=>by refine X1p (Cm d) λo e=>?_;exact Bu (u _ _ e)
 have U:∀{a},Dom (Fn Aa V t) a->Hid Aa V a\/Dom t a:=λ{a} d=>by
  by_cases h:Hid Aa V a
  .exact .inl h
  .right;unfold Dom at d ⊢;rw[hN h]at d;exact d
 have fN:∀{a},Frm A a->N a:=λ{a} ⟨l,el,e,he,hf⟩=>by
  refine X1pp O.fr λl' B hl=>?_;rw[el]at B;obtain rfl:=ae B;refine Ao (hl e he) λZ Z0=>?_;refine X1ppp Z0 λL z h3 Z=>?_;rw[hf]at z;obtain rfl:=ae z;exact h3
 have dm:∀b,Dom (Fn Aa V t) b->Dom V b\/s.heap.get? b=aa:=λb d=>(U d).elim (λh=>.inl h.1) λh=>(st.dom b h).imp Y id;have dd:∀b,DN N (Fn Aa V t) b->DN (λa=>N a\/Hid Aa V a) t b:=λb d=>d.elim (λd=>(U d).elim (λh=>.inr (.inr h)) .inl) λh=>.inr (.inl h);refine⟨⟨st.ext.mono λa h=>h.imp Y id,λb o e p ho d=>st.frm b o e p ho λq=>d (Y q),dm,st.there⟩,⟨i.keep,i.gens,i.drawn,i.os,λa d=>(U d).elim (λh=>hi.σg a h.1) (i.σg a),λa d n=>(U d).elim (λh=>hi.σN a h.1 n) λh=>i.σN a h (.inl n),λa n=>i.Nin a (.inl n),λa o e=>?_⟩,dd,λa d=>?_⟩
 .by_cases h:Hid Aa V a
  .rw[hH h]at e
   refine(hi.rep a o e).ext (D:=DN N V) (st.ext.mono λb q=>q.elim (λq=>.inl (Y q)) λq=>q.elim (λq=>q.elim) λq=>.inr (fN q)) (λb d=>d.elim (λd=>(dm b d).imp .inl id) λd=>.inl (.inr d)) λT y=>?_;exact st.ext.obj a T y λq=>q.elim h.2 λq=>q.elim (λq=>q.elim) λq=>hi.σN a h.1 (fN q)
  .rw[hN h]at e
   exact(i.rep a o e).ext (Ext.refl _ _) (λb d=>.inl (dd b d)) λZ q=>q
 .rcases st.dom a d with q|q
  .exact .inl q
  .refine .inr ?_
   cases e:V a with|none=>rfl|some o=>refine X1pp ((hi.rep a o e).there) λT y Z=>?_;rw[q]at y;exact nS y
theorem FrK.of{N:Addr->Prop}{A:cD}{Aa V t:Store}{s s':af}{α:Type}{Q:α->Store->Prop}{v:α}(f:Framed S N A Aa V s t s')(i:Inv S (λa=>N a\/Hid Aa V a) t s')(q:Q v t):FrK Aa V Q v (Fn Aa V t):=by
 refine⟨t,q,λa o e=>?_,λa o e n=>?_,f.nw⟩
 .have:¬Hid Aa V a:=λh=>i.σN a (Bu e) (.inr h)
  exact(if_neg this).trans e
 .exact(if_pos ⟨Bu e,λd=>d n⟩).trans e
theorem CallT.frame{k:Nat}{f:Value}{T:List AV}{Aa V:Store}{Q:AV->Store->Prop}{X:KX}(u:∀a o,Aa a=some o->V a=some o)(h:CallT S k f T Aa Q X):CallT S k f T V (FrK Aa V Q) (FrK Aa V X):=by
 intro N A U s O hi rl;have B:∀{a},Dom Aa a->Dom V a:=λd=>by refine X1p (Cm d) λo e=>?_;exact Bu (u _ _ e)
 have dd:∀b,DN (λa=>N a\/Hid Aa V a) Aa b->DN N V b:=λb d=>d.elim (λd=>.inl (B d)) λd=>d.elim .inr λd=>.inl d.1;have Y:Inv S (λa=>N a\/Hid Aa V a) Aa s:=⟨hi.keep,hi.gens,hi.drawn,hi.os,λa d=>hi.σg a (B d),λa d n=>n.elim (hi.σN a (B d)) λn=>n.2 d,λa n=>n.elim (hi.Nin a) λn=>by
   refine X1p (Cm n.1) λo e=>?_;exact(hi.rep a o e).nf,λa o e=>(hi.rep a o (u a o e)).ext (Ext.refl _ _) (λb d=>.inl (dd b d)) λZ q=>q⟩
 refine dG (h _ A U s (O.wide λa n=>.inl n) Y (rl.less dd)) λr s' z=>?_
 cases r with
 |error e =>
  obtain⟨ea,c,t,Ak,h1,h2,h3,y,h5⟩:=z;have f:=EF u O hi h3 y;exact⟨ea,c,_,Ak,h1,h2,f.st,f.i,FrK.of f y h5⟩
 |ok fl =>
  cases fl with
  |ret v =>
   obtain⟨av,t,st,i,r,q⟩:=z;have f:=EF u O hi st i;exact⟨av,_,f.st,f.i,r.less f.d,FrK.of f i q⟩
  |_=>exact z
theorem Bh:∀{V:LS}{i j:Nat}{a:Addr}{o p:AObj},okS V->slot V i=.at a o->slot V j=.at a p->i=j
 |[],i,j,a,o,p,_,h,_=>by cases h
 |x::r,0,0,a,o,p,_,_,_=>rfl
 |x::r,0,j+1,a,o,p,k,h,h'=>by
  have:x=.at a o:=h
  clear h;subst this
  have:=Av k.2 (show slot r j=.at a p from h');rw[k.1]at this;exact nS this
 |x::r,i+1,0,a,o,p,k,h,h'=>by
  have:x=.at a p:=h'
  clear h';subst this
  have:=Av k.2 (show slot r i=.at a o from h);rw[k.1]at this;exact nS this
 |x::r,i+1,j+1,a,o,p,k,h,h'=>by
  have O:okS r:=by cases x with|no=>exact k|«at» c q=>exact k.2
  exact congrArg fS (Bh (V:=r) O h h')
theorem HN:∀{V:LS}{a:Addr}{o:AObj},.at a o∈V->∃i,slot V i=.at a o
 |x::r,a,o,h=>by
  rcases ax.mp h with q|q
  .exact⟨0,q.symm⟩
  .refine X1p (HN q) λi e=>?_;exact⟨i+1,e⟩
theorem Ba{V:LS}{a:Addr}{o:AObj}(h:Au V a=some o):∃i,slot V i=.at a o:=HN (FQ h)
theorem Ey:∀{V:LS},(∀i j a o p,slot V i=.at a o->slot V j=.at a p->i=j)->okS V
 |[],_=>trivial
 |.no::r,h=>Ey (V:=r) λi j a o p Y y=>fe (h (i+1) (j+1) a o p Y y)
 |.at b q::r,h=>by
  refine⟨?_,Ey (V:=r) λi j a o p Y y=>fe (h (i+1) (j+1) a o p Y y)⟩
  cases e:Au r b with
  |none=>rfl
  |some o=>refine X1p (Ba e) λi z=>?_;cases h 0 (i+1) b q o rfl z
theorem HE{V:LS}{i j:Nat}{s:Slot}{a:Addr}{o:AObj}(h:slot (V.set i s) j=.at a o):(j=i/\s=.at a o)\/(j≠i/\slot V j=.at a o):=by
 unfold slot at h ⊢;rw[aB,List.getElem?_set]at h
 by_cases q:i=j
 .subst q
  rw[if_pos rfl]at h
  by_cases z:i<V.length
  .rw[if_pos z]at h;exact .inl ⟨rfl,h⟩
  .rw[if_neg z]at h;cases h
 .rw[if_neg q]at h
  exact .inr ⟨λe=>q e.symm,by rw[aB];exact h⟩
theorem DO:∀{l:List Nat},Ez l=true->l.Nodup
 |[],_=>.nil
 |i::r,h=>by
  refine Ao (aG.mp h) λY z=>?_;refine bJ.mpr ⟨λq=>?_,DO z⟩
  have:r.any (bV i)=true:=dQ.mpr ⟨i,q,Nat.beq_refl i⟩
  rw[this]at Y;exact nF Y
theorem C6:∀{ix:List Nat}{V τ:LS}{j:Nat}{a:Addr}{o:AObj},ix.Nodup->slot (wb V ix τ) j=.at a o->(j∉ix/\slot V j=.at a o)\/∃p,ix[p]?=some j/\slot τ p=.at a o
 |[],V,τ,j,a,o,_,h=>.inl ⟨bh,h⟩
 |i::r,V,s::τ,j,a,o,n,h=>by
  rw[bJ]at n
  rcases C6 (ix:=r) n.2 h with⟨Y,y⟩|⟨p,Y,y⟩
  .rcases HE y with⟨rfl,q⟩|⟨q,z⟩
   .exact .inr ⟨0,rfl,q⟩
   .exact .inl ⟨λm=>(ax.mp m).elim q Y,z⟩
  .exact .inr ⟨p+1,Y,y⟩
 |i::r,V,[],j,a,o,n,h=>by
  rw[bJ]at n
  rcases C6 (ix:=r) n.2 h with⟨Y,y⟩|⟨p,Y,y⟩
  .rcases HE y with⟨rfl,q⟩|⟨q,z⟩
   .cases q
   .exact .inl ⟨λm=>(ax.mp m).elim q Y,z⟩
  .cases y
theorem BK{V:LS}{ix:List Nat}{p:Nat}{a:Addr}{o:AObj}(h:slot (ix.map (slot V)) p=.at a o):∃i,ix[p]?=some i/\slot V i=.at a o:=by
 unfold slot at h;rw[aB,aT]at h
 cases e:ix[p]? with
 |none=>rw[e]at h;cases h
 |some i=>rw[e]at h;exact⟨i,rfl,h⟩
theorem nodup_at{l:List Nat}{p q i:Nat}(n:l.Nodup)(Y:l[p]?=some i)(T:l[q]?=some i):p=q:=by
 have d:p<l.length:=by
  rcases bL p l.length with z|z
  .exact z
  .rw[aX z]at Y;exact nS Y
 exact(List.getElem?_inj d n).mp (Y.trans T.symm)
theorem Kj{V:LS}{ix:List Nat}(k:okS V)(n:ix.Nodup):okS (ix.map (slot V))/\Sub (ix.map (slot V)) (Au V):=by
 refine⟨Ey λi j a o p Y U=>?_,λa o e=>?_⟩
 .refine X1pp (BK Y) λd u O=>?_
  refine X1pp (BK U) λy B T=>?_
  have:=Bh k O T
  clear T;subst this;exact nodup_at n u B
 .refine X1p (Ba e) λp z=>?_
  refine X1pp (BK z) λi Z z=>?_;exact Av k z
theorem wb_ok{V τ:LS}{ix:List Nat}{s:Store}(k:okS V)(n:ix.Nodup)(kt:okS τ)(ht:Sub τ s)(B:∀a o,Au V a=some o->Au (ix.map (slot V)) a=aa->s a=some o)(nw:∀a,Dom (Au τ) a->Dom (Au (ix.map (slot V))) a\/Au V a=aa):okS (wb V ix τ)/\Sub (wb V ix τ) s:=by
 have Y:∀{i a o p y},i∉ix->slot V i=.at a o->slot τ p=.at a y->False:=λ{i a o p y} hn d B=>by
  rcases nw a (Bu (Av kt B))with q|q
  .refine X1p (Cm q) λo2 e=>?_
   refine X1p (Ba e) λp' z=>?_;refine X1pp (BK z) λi' u z=>?_
   have:=Bh k d z
   clear z;subst this;exact hn (ag u)
  .rw[Av k d]at q;exact nS' q
 refine⟨Ey λi j a o p d B=>?_,λa o e=>?_⟩
 .rcases C6 n d with⟨U,O⟩|⟨p1,u,O⟩<;>rcases C6 n B with⟨n2,T⟩|⟨p2,e2,T⟩
  .exact Bh k O T
  .exact(Y U O T).elim
  .exact(Y n2 T O).elim
  .have:=Bh kt O T
   clear T;subst this;rw[u]at e2;exact ae e2
 .refine X1p (Ba e) λj z=>?_
  rcases C6 n z with⟨U,O⟩|⟨p1,u,O⟩
  .refine B a o (Av k O) ?_
   cases q:Au (ix.map (slot V)) a with
   |none=>rfl
   |some y =>
    refine X1p (Ba q) λp' z=>?_;refine X1pp (BK z) λi' u z=>?_
    have:=Bh k O z
    clear z;subst this;exact(U (ag u)).elim
  .exact ht a o (Av kt O)
end
section
variable {S:Sta}{W:Wd}
noncomputable def isLD:AObj->Bool
 |.list _=>true
 |.dict _=>true
 |_=>false
def newW(k:Nat)(V:LS)(v:AV)(js:List Nat)(os:List AObj)(K:Sh->List Nat->List AObj->Prop):Prop:=match v with
 |.loc a i=>(match slot V i with
  |.at b o=>(match isLD o && fq k i && !(js.any (bV i))with
   |true=>b=a/\K (.new os.length) (js++[i]) (os++[o])
   |false=>False)
  |.no=>False)
 |_=>False
mutual
def convW(k:Nat)(V:LS):Rs->AV->List Nat->List AObj->(Sh->List Nat->List AObj->Prop)->Prop
 |.val,v,js,os,K=>K (.val v) js os
 |.new,v,js,os,K=>newW k V v js os K
 |.tup rs,v,js,os,K=>(match v with
  |.tup vs=>Iv k V rs vs js os (λsh js os=>K (.tup sh) js os)
  |_=>False)
 |.list rs,v,js,os,K=>(match v with
  |.list vs=>Iv k V rs vs js os (λsh js os=>K (.list sh) js os)
  |_=>False)
def Iv(k:Nat)(V:LS):List Rs->List AV->List Nat->List AObj->(List Sh->List Nat->List AObj->Prop)->Prop
 |[],[],js,os,K=>K [] js os
 |r::rs,v::vs,js,os,K=>convW k V r v js os (λsh js os=>Iv k V rs vs js os (λshs js os=>K (sh::shs) js os))
 |_,_,_,_,_=>False
end
def GN(rs:Rs)(k:Nat)(v:AV)(V:LS)(K:KR):Prop:=convW k V rs v [] [] (λsh Z os=>K ⟨os,sh⟩ (V.take k))
noncomputable def flV:Fl->AV
 |.ret v=>v
 |.next=>.none
def fnW(Φ:Tab)(c:Ap)(rs:Rs)(nv ns:Nat)(avs:List AV)(V:LS)(K:KR)(X:XL):Prop :=
 avs.length=c.n/\wpSs Φ c.body (λe τ=>X e (τ.take V.length)) (avs.map some++aP nv aa) (V++aP ns .no) (λfl Z τ=>GN rs V.length (flV fl) τ K)
mutual
inductive ShR(V:LS)(js:List Nat)(os:List AObj):Sh->AV->Prop
 |val (v:AV):ShR V js os (.val v) v
 |new {j i:Nat}{a:Addr}{o:AObj}:js[j]?=some i->slot V i=.at a o->os[j]?=some o->ShR V js os (.new j) (.loc a i)
 |tup {l:List Sh}{vs:List AV}:ShRL V js os l vs->ShR V js os (.tup l) (.tup vs)
 |list {l:List Sh}{vs:List AV}:ShRL V js os l vs->ShR V js os (.list l) (.list vs)
inductive ShRL(V:LS)(js:List Nat)(os:List AObj):List Sh->List AV->Prop
 |nil:ShRL V js os [] []
 |cons {s:Sh}{v:AV}{l:List Sh}{vs:List AV}:ShR V js os s v->ShRL V js os l vs->ShRL V js os (s::l) (v::vs)
end
theorem Hb{α:Type}{l k:List α}{i:Nat}{x:α}(h:l[i]?=some x):(l++k)[i]?=some x:=by
 have:i<l.length:=by
  rcases bL i l.length with z|z
  .exact z
  .rw[aX z]at h;exact nS h
 rw[ce this];exact h
theorem ShR.more{V:LS}{O js':List Nat}{os os':List AObj}{s:Sh}{v:AV}(h:ShR V O os s v):ShR V (O++js') (os++os') s v :=
 ShR.rec (motive_1:=λs v Z=>ShR V (O++js') (os++os') s v) (motive_2:=λl vs Z=>ShRL V (O++js') (os++os') l vs)
  (λv=>.val v) (λa b c=>.new (Hb a) b (Hb c)) (λZ h=>.tup h) (λZ h=>.list h) .nil (λZ Z a b=>.cons a b) h
structure Fine(k:Nat)(V:LS)(js:List Nat)(os:List AObj):Prop where
 len:js.length=os.length
 nd:js.Nodup
 at_:∀(j i:Nat),js[j]?=some i->k<=i/\∃a o,slot V i=.at a o/\os[j]?=some o/\isLD o=true
inductive Conv(k:Nat)(V:LS)(js:List Nat)(os:List AObj){α:Type}(R:α->List Nat->List AObj->Prop)(K:α->List Nat->List AObj->Prop):Prop
 |mk (sh:α)(js':List Nat)(os':List AObj)(f:Fine k V (js++js') (os++os'))(r:R sh (js++js') (os++os'))(h:K sh (js++js') (os++os')):Conv k V js os R K
set_option tactic.hygienic true in
theorem newW_ok{k:Nat}{V:LS}{v:AV}{O:List Nat}{os:List AObj}{K:Sh->List Nat->List AObj->Prop}(f:Fine k V O os)(h:newW k V v O os K):Conv k V O os (λs O os=>ShR V O os s v) K:=by
 unfold newW at h
 split at h
 .rename_i a i
  split at h
  .rename_i b o z
   split at h
   .rename_i q
    obtain⟨rfl,h⟩:=h;obtain⟨U,T⟩:=aG.mp q;obtain⟨U,Y⟩:=aG.mp U;refine⟨_,[i],[o],⟨?_,?_,?_⟩,.new (j:=os.length) ?_ z ?_,h⟩
    .rw[aE,aE,f.len];rfl
    .rw[cC]
     refine⟨f.nd,bJ.mpr ⟨bh,.nil⟩,λx hx y u e=>?_⟩;have u:=aR.mp u;subst e;subst u
     have:O.any (bV x)=true:=dQ.mpr ⟨x,hx,Nat.beq_refl x⟩
     rw[this]at T;exact nF T
    .intro j i' d
     rcases bL j O.length with B|B
     .rw[ce B]at d
      refine Ao (f.at_ j i' d) λh1 Z0=>?_;refine X2ppp Z0 λa' o' h2 h3 h4=>?_;exact⟨h1,a',o',h2,Hb h3,h4⟩
     .rw[bn B]at d
      cases hjj:j - O.length with
      |zero =>
       rw[hjj]at d;obtain rfl:=ae d;refine⟨ij.mp Y,b,o,z,?_,U⟩;rw[bn (by rw[<- f.len];exact B),<- f.len,hjj];rfl
      |succ n=>rw[hjj]at d;exact nS d
    .rw[<- f.len,bn (ay _),Nat.sub_self];rfl
    .rw[bn (ay _),Nat.sub_self];rfl
   .exact h.elim
  .exact h.elim
 .exact h.elim
mutual
theorem Fy{k:Nat}{V:LS}:∀{rs:Rs}{v:AV}{O:List Nat}{os:List AObj}{K:Sh->List Nat->List AObj->Prop},Fine k V O os->convW k V rs v O os K->Conv k V O os (λs O os=>ShR V O os s v) K
 |.val,v,O,os,K,f,h=>⟨_,[],[],by rw[aL,aL];exact f,.val v,by rw[aL,aL];exact h⟩
 |.new,v,O,os,K,f,h=>newW_ok f h
 |.tup rs,v,O,os,K,f,h=>by
  cases v with
  |tup vs=>obtain⟨l,js',os',T,r,h⟩:=D6 f h;exact⟨_,js',os',T,.tup r,h⟩
  |_=>exact h.elim
 |.list rs,v,O,os,K,f,h=>by
  cases v with
  |list vs=>obtain⟨l,js',os',T,r,h⟩:=D6 f h;exact⟨_,js',os',T,.list r,h⟩
  |_=>exact h.elim
theorem D6{k:Nat}{V:LS}:∀{rs:List Rs}{v:List AV}{O:List Nat}{os:List AObj}{K:List Sh->List Nat->List AObj->Prop},Fine k V O os->Iv k V rs v O os K->Conv k V O os (λs O os=>ShRL V O os s v) K
 |[],[],O,os,K,f,h=>⟨_,[],[],by rw[aL,aL];exact f,.nil,by rw[aL,aL];exact h⟩
 |r::rs,v::vs,O,os,K,f,h=>by
  obtain⟨s,js',os',T,Y,h⟩:=Fy f h;obtain⟨l,U,B,z,y,h⟩:=D6 T h;rw[aM,aM]at z y h;refine⟨_,js'++U,os'++B,z,.cons ?_ y,h⟩
  have:=Y.more (js':=U) (os':=B)
  rw[aM,aM]at this;exact this
 |[],_::_,_,_,_,_,h=>h.elim
 |_::_,[],_,_,_,_,h=>h.elim
end
theorem Fine.nil{k:Nat}{V:LS}:Fine k V [] []:=⟨rfl,.nil,λZ Z h=>by exact nS h⟩
theorem ShR.rep{cv:Nat->Value}{h:Heap}{D D':Addr->Prop}{V:LS}{O:List Nat}{os:List AObj}{f:Nat->AV}{s:Sh}{v:AV}(hr:ShR V O os s v)(hf:∀(j i:Nat)(a:Addr)(o:AObj),O[j]?=some i->slot V i=.at a o->os[j]?=some o->Rep cv h D' (f j) (.ref a))
  (hl:∀{v u},Rep cv h D v u->Rep cv h D' v u) (U:∀a,D' a->D a):∀{u:Value},Rep cv h D v u->Rep cv h D' (s.with f) u :=
 ShR.rec (motive_1:=λs v Z=>∀{u:Value},Rep cv h D v u->Rep cv h D' (s.with f) u) (motive_2:=λl vs Z=>∀{z:List Value},RepL cv h D vs z->RepL cv h D' (Sh.withL f l) z)
  (λv u r=>hl r) (λa b c u r=>by rw[show u=cE _ from r.inv];exact hf _ _ _ _ a b c)
  (λZ y u r=>by obtain⟨a,vs,n,rfl,e,d,r⟩:=r.inv;exact .tup e (λq=>d (U _ q)) (y r)) (λZ y u r=>by obtain⟨a,vs,n,rfl,e,d,r⟩:=r.inv;exact .list e (λq=>d (U _ q)) (y r))
  (λr=>by rw[show _=([]:List Value) from r.inv];exact .nil) (λZ Z T B z r=>by refine X2lpp z r.inv λv rr r1 Y=>?_;exact .cons (T r1) (B Y)) hr
inductive OutF(K:KR)(v:AV)(s:Store):Prop
 |mk (r:RT)(τ:LS)(e:v=r.sh.with (frzN r.os))(k:okS τ)(hs:Sub τ s)(h:K r τ):OutF K v s
noncomputable def Jk:List Addr->Nat->List AV
 |[],_=>[]
 |a::r,i=>.loc a i::Jk r (i+1)
theorem F3:∀{as:List Addr}{i j:Nat}{a:Addr},as[j]?=some a->∃n,(Jk as i).getD j .none=.loc a n
 |a::r,i,0,_,h=>by obtain rfl:=ae h;exact⟨i,rfl⟩
 |_::r,i,j+1,a,h=>F3 (as:=r) (i:=i+1) (j:=j) h
inductive OutM(i:Nat)(K:KR)(v:AV)(s:Store):Prop
 |mk (r:RT)(τ:LS)(as:List Addr)(e:v=r.sh.with (λj=>(Jk as i).getD j .none))(k:okS τ)(hs:Sub τ s)(nd:as.Nodup)(len:as.length=r.os.length)(at_:∀(j:Nat)(o:AObj),r.os[j]?=some o->∃a,as[j]?=some a/\s a=some o/\Au τ a=aa)(h:K r τ):OutM i K v s
theorem BB{V:LS}{k p:Nat}{a:Addr}{o:AObj}(h:slot (V.take k) p=.at a o):p<k/\slot V p=.at a o:=by
 unfold slot at h ⊢;rw[aB,List.getElem?_take]at h
 by_cases q:p<k
 .rw[if_pos q]at h;exact⟨q,by rw[aB];exact h⟩
 .rw[if_neg q]at h;cases h
theorem DG{V:LS}{k:Nat}(o:okS V):okS (V.take k)/\∀a p,Au (V.take k) a=some p->Au V a=some p:=by
 refine⟨Ey λi j a p q Y y=>Bh o (BB Y).2 (BB y).2,λa p e=>?_⟩;refine X1p (Ba e) λi z=>?_;exact Av o (BB z).2
theorem Ia:∀{os:List AObj}{j:Nat}{o:AObj},os[j]?=some o->frzN os j=frz o
 |o::os,0,_,h=>by obtain rfl:=ae h;rfl
 |_::os,j+1,o,h=>Ia (os:=os) h
theorem CD{rs:Rs}{k:Nat}{fl:Fl}{V:LS}{s:Store}{K:KR}{m:Vars}(o:okS V)(hs:Sub V s)(h:GN rs k (flV fl) V K):RetK S (OutF K) fl m s:=by
 intro N;obtain⟨sh,js,os,f,r,h⟩:=Fy Fine.nil h;simp only[gd]at f r h
 let as:List Addr:=js.filterMap λi=>match slot V i with
  |.at a _=>some a
  |.no=>aa
 have mem:∀{i a p},i∈js->slot V i=.at a p->a∈as:=λ{i a p} hi z=>d7.mpr ⟨i,hi,by rw[z]⟩
 refine⟨sh.with (frzN os),s.dels as,?_,⟨os,sh⟩,V.take k,rfl,(DG o).1,λa p e=>?_,h⟩
 .show View S N (flV fl) _ _ _
  intro t u hi ru;refine Ao (hi.drop (V':=s.dels as) λb p e=>(CN e).2) λi st=>?_;refine⟨i,st,r.rep (D:=DN N s) (D':=DN N (s.dels as)) (λj y a p O z hp=>?_) (λr=>r.step st (λZ h=>h.elim) (λZ h=>h.elim)) (λa d=>d.imp (λd=>?_) id) ru⟩
  .have T:s a=some p:=hs.at o z
   have ia:a∈as:=mem (ag O) z;rw[Ia hp];refine Ao (f.at_ j y O) λZ Z0=>?_;refine X2ppp Z0 λa' o' B hp' hl=>?_;rw[z]at B;cases B
   cases p with
   |list l =>
    refine X2pp ((hi.rep a _ T).inv) λvs n e r=>?_;exact .list e (λd=>d.elim (A9 ia) (hi.σN a (Bu T))) (r.step st (λZ h=>h.elim) (λZ h=>h.elim))
   |dict l =>
    refine X2pppp ((hi.rep a _ T).inv) λvs n e sm nd r=>?_;exact .dict e (λd=>d.elim (A9 ia) (hi.σN a (Bu T))) sm nd (r.step st (λZ h=>h.elim) (λZ h=>h.elim))
   |_=>exact nF hl
  .refine X1p (Cm d) λp e=>?_;exact Bu (CN e).2
 .refine X1p (Ba e) λi z=>?_
  refine Ao (BB z) λU z=>?_;unfold Store.dels;rw[if_neg]
  .exact hs.at o z
  .intro q
   refine X1pp (d7.mp q) λy Y e'=>?_;refine X1p (fX Y) λj O=>?_;refine Ao (f.at_ j y O) λhk Z1=>?_;refine X2ppp Z1 λa' o' B Z Z=>?_;rw[B]at e';obtain rfl:=ae e'
   have:=Bh o z B
   exact lin [i,k,y] [] .no [.c V0 V1,.b V1 V2,.D (-1) V0 V2] rfl U hk this
theorem HJ{rs:Rs}{k i:Nat}{fl:Fl}{V:LS}{s:Store}{K:KR}{m:Vars}(o:okS V)(hs:Sub V s)(h:GN rs k (flV fl) V K):RetK S (OutM i K) fl m s:=by
 intro N;obtain⟨sh,O,os,f,r,h⟩:=Fy Fine.nil h;simp only[gd]at f r h
 let ad:Nat->Addr:=λi=>match slot V i with
  |.at a _=>a
  |.no=>0
 have Y:∀{i a p},slot V i=.at a p->ad i=a:=λ{i a p} z=>by simp only[ad,z]
 refine⟨sh.with (λj=>(Jk (O.map ad) i).getD j .none),s,?_,⟨os,sh⟩,V.take k,O.map ad,rfl,(DG o).1,λa p e=>hs a p ((DG o).2 a p e),?_,?_,λj p y=>?_,h⟩
 .show View S N (flV fl) _ _ _
  intro t u hi ru;refine⟨hi,Step.refl _ _ _ _,r.rep (λj T a p B z y=>?_) (λr=>r) (λZ d=>d) ru⟩;refine X1p (F3 (as:=O.map ad) (i:=i) (j:=j) (a:=a) (by rw[aT,B];exact congrArg some (Y z))) λn e=>?_
  rw[e];exact .loc _ _
 .refine cz.mpr (List.Pairwise.imp_of_mem (λ{i j} hi B hne e=>?_) f.nd)
  refine X1p (fX hi) λp y=>?_;refine X1p (fX B) λq hq=>?_;refine Ao (f.at_ p i y) λZ Z0=>?_;refine X2pp Z0 λa o1 z1 Z=>?_;refine Ao (f.at_ q j hq) λZ Z1=>?_;refine X2pp Z1 λb o2 z2 Z=>?_;rw[Y z1,Y z2]at e;subst e;exact hne (Bh o z1 z2)
 .rw[an];exact f.len
 .have B:j<O.length:=by
   rw[f.len]
   rcases bL j os.length with z|z
   .exact z
   .have y:os[j]?=some p:=y
    rw[aX z]at y;exact nS y
  obtain⟨T,hi'⟩:∃T,O[j]?=some T:=⟨_,aA B⟩;refine Ao (f.at_ j T hi') λhk Z2=>?_;refine X2ppp Z2 λa o' z U Z=>?_;have y:os[j]?=some p:=y;rw[y]at U;obtain rfl:=ae U;refine⟨a,by rw[aT,hi'];exact congrArg some (Y z),hs.at o z,?_⟩
  cases e:Au (V.take k) a with
  |none=>rfl
  |some p' =>
   refine X1p (Ba e) λq zq=>?_;refine Ao (BB zq) λhq zq=>?_
   have:=Bh o zq z
   omega
end
section
variable {S:Sta}{W:Wd}
theorem Cr:∀{V:LS}{n:Nat},Au (V++aP n .no)=Au V
 |[],0=>rfl
 |[],n+1=>by funext a;exact congrFun (Cr (V:=[]) (n:=n)) a
 |.no::r,n=>by funext a;exact congrFun (Cr (V:=r) (n:=n)) a
 |.at b o::r,n=>by
  funext a
  have:=congrFun (Cr (V:=r) (n:=n)) a
  show (if a=b then some o else Au (r++aP n .no) a)=if a=b then some o else Au r a;rw[this]
theorem C9:∀{V:LS}{n:Nat},okS V->okS (V++aP n .no)
 |[],0,_=>trivial
 |[],n+1,k=>C9 (V:=[]) (n:=n) k
 |.no::r,n,k=>C9 (V:=r) k
 |.at b o::r,n,k=>⟨(congrFun (Cr (V:=r) (n:=n)) b).trans k.1,C9 (V:=r) k.2⟩
theorem Hw(m:M)(n:Nat):vr (m++aP n aa)=vr m:=by
 funext i
 unfold vr;rw[aB,aB]
 rcases bL i m.length with h|h
 .rw[ce h]
 .rw[bn h,aX h]
  rw[dR]
  split<;>rfl
theorem XR.mono{F:Fx S}{X O:KX}{e:Value}{s:af}(k:∀c V,X c V->O c V)(h:XR F X e s):XR F O e s:=by
 obtain⟨y,c,V',Ak,m',T,h,x,o⟩:=h;exact⟨y,c,V',Ak,m',T,h,k _ _ x,o⟩
theorem D1{Φ:Tab}{k:Nat}{U:Addr}{c:Ap}{rs:Rs}{nv ns:Nat}{u:List AV}{V:LS}{K:KR}{X:XL}{Q:AV->Store->Prop}(T:TabOk S W k Φ)(hf:IsFn S U c)(o:okS V)(h:fnW Φ c rs nv ns u V K X)
  (y:∀{fl:Fl}{m:Vars}{τ:LS}{s:Store},okS τ->Sub τ s->GN rs V.length (flV fl) τ K->RetK S Q fl m s):CallT S (k+1) (.ref U) u (Au V) Q (Up X):=by
 refine CallT.body hf h.1 λF d ht Y O B=>?_;have x:Xo F (λe τ=>X e (τ.take V.length)) Y:=⟨λe s z=>O e s (z.mono λc t z=>by
  obtain⟨τ,hs,ok,z⟩:=z;exact⟨τ.take V.length,λa p e=>hs a p ((DG ok).2 a p e),(DG ok).1,z⟩),B⟩
 have:=BV T c.body _ F (dH d.symm) Y x _ _ _ (C9 (n:=ns) o) h.2
 rw[Hw,E3,Cr]at this;refine SsT.mono this λfl m s z=>?_;obtain⟨m1,τ,em,hs,ok,z⟩:=z;exact y ok hs z
theorem FG:∀{os:List AObj}{as:List Addr}{i:Nat}{τ:LS}{s:Store}{acc:List AV}{K:List AV->LS->Prop},okS τ->Sub τ s->as.Nodup->as.length=os.length->(∀(j:Nat)(o:AObj),os[j]?=some o->∃a,as[j]?=some a/\s a=some o/\Au τ a=aa)->L7 os i τ acc K->∃B,okS B/\Sub B s/\K (acc++Jk as i) B
 |[],[],i,τ,s,acc,K,k,hs,_,_,_,h=>⟨τ,k,hs,by rw[show Jk [] i=[] from rfl,aL];exact h⟩
 |o::os,a::as,i,τ,s,acc,K,k,hs,nd,hl,ha,h=>by
  refine X1ppp (ha 0 o rfl) λa' e d T=>?_;obtain rfl:=ae e;rw[bJ]at nd;have f:Fits τ i (.at a o):=λZ Z e=>by cases e;exact .inl T
  have sub:=E8 k f
  have:=FG (os:=os) (as:=as) (i:=i+1) (s:=s) (Dh k f) (λb p e=>by
   have:=sub b p e
   by_cases z:b=a
   .clear nd hl ha e T f sub;subst z;rw[Store.set_self]at this;obtain rfl:=ae this;exact d
   .rw[Store.set_ne _ _ z]at this;exact hs b p this) nd.2 (fe hl) (λj p y=>by
    refine X1ppp (ha (j+1) p y) λb O u nb=>?_;refine⟨b,O,u,?_⟩
    cases e:Au (τ.set i (.at a o)) b with
    |none=>rfl
    |some U =>
     have:=sub b U e
     have ne:b≠a:=λz=>nd.1 (by clear nd hl ha e d T f sub;subst z;exact ag O)
     rw[Store.set_ne _ _ ne,nb]at this;exact nS this) (h a)
  refine X1ppp this λB k' Y h'=>?_;exact⟨B,k',Y,by rw[aM]at h';exact h'⟩
 |[],_::_,_,_,_,_,_,_,_,_,hl,_,_=>by cases hl
 |_::_,[],_,_,_,_,_,_,_,_,hl,_,_=>by cases hl
theorem OutF.up{K:KV}{v:AV}{s:Store}(h:OutF (λr τ=>Ek aa r τ K) v s):Up K v s:=by
 obtain⟨r,τ,rfl,k,hs,h⟩:=h;exact⟨τ,hs,k,h⟩
theorem OutM.up{i:Nat}{K:KV}{v:AV}{s:Store}(h:OutM i (λr τ=>Ek (some i) r τ K) v s):Up K v s:=by
 obtain⟨r,τ,as,rfl,k,hs,y,len,at_,h⟩:=h;refine X1ppp (FG k hs y len at_ h) λB k' Y h=>?_;exact⟨B,Y,k',h⟩
theorem CF{cv:Nat->Value}{h:Heap}{D:Addr->Prop}:∀{u:List AV}{n:Nat}{U:List Value},RepL cv h D u U->RepL cv h D (A1 u n) U
 |[],_,_,r=>r
 |x::l,n,U,r=>by
  refine X2lpp U r.inv λv d B O=>?_;unfold A1
  cases x with|loc a i=>rw[show v=.ref a from B.inv];exact .cons (.loc _ _) (CF O)|_=>exact .cons B (CF O)
theorem CallT.relab{k:Nat}{f:Value}{u:List AV}{n:Nat}{V:Store}{Q:AV->Store->Prop}{X:KX}(h:CallT S k f (A1 u n) V Q X):CallT S k f u V Q X:=λN A U s O hi d=>h N A U s O hi (CF d)
structure FnOk(Φ:Tab)(c:Ap)(rs:Rs)(nv ns:Nat)(f:FS):Prop where
 spec:∀avs V K X,f.spec avs V K X->fnW Φ c rs nv ns avs V K X
 pure:∀avs v,f.pure avs=some v->∀K:KR,K ⟨[],.val v⟩ []->fnW Φ c .val nv ns avs [] K BZ
set_option tactic.hygienic true in
theorem Snd.of{k:Nat}{fv:Value}{f:FS}(h1:∀u V K X,okS V->f.spec u V K X->CallT S k fv u (Au V) (OutF K) (Up X)/\∀i,CallT S k fv u (Au V) (OutM i K) (Up X))
  (h2:∀u v,f.pure u=some v->CallT S k fv u (Au []) (OutF λr Z=>r=⟨[],.val v⟩) (Up BZ)):Snd S k fv f:=by
 intro F U m mu u V K X o q;unfold ownW at q
 split at q
 .rename_i v hv
  refine CT.own (CallT.mono (CallT.frame (V:=Au V) (λa p e=>by exact nS e) (h2 u v hv)) (λa s z=>?_) λc s z=>?_) U
  .obtain⟨t,⟨r,τ,e,_,_,e'⟩,Y,T,_⟩:=z
   subst e';subst e;exact⟨V,λa p e=>T a p e rfl,o,q⟩
  .obtain⟨t,⟨τ,_,_,z⟩,_⟩:=z
   exact z.elim
 .split at q
  .have q:=h1 _ _ _ _ o q
   cases mu with|none=>exact CT.own (CallT.mono q.1 (λa s z=>z.up) λc s z=>z) U|some i=>exact CT.own (CallT.mono (q.2 i) (λa s z=>z.up) λc s z=>z) U
  .split at q
   .rename_i hn
    have n:=DO hn;refine Ao (Kj (ix:=AF u) o n) λkp hp=>?_;have q:=h1 _ _ _ _ kp q;have back:∀{τ:LS}{t s:Store},okS τ->Sub τ t->(∀a p,t a=some p->s a=some p)->(∀a p,Au V a=some p->Au ((AF u).map (slot V)) a=aa->s a=some p)->(∀a,Dom t a->Dom (Au ((AF u).map (slot V))) a\/Au V a=aa)->okS (wb V (AF u) τ)/\Sub (wb V (AF u) τ) s:=λ{τ t s} O ht Y T B =>
     wb_ok o n O (ht.trans Y) T λa d=>B a (by refine X1p (Cm d) λp e=>?_;exact Bu (ht a p e))
    have xx:∀c s,FrK (Au ((AF u).map (slot V))) (Au V) (Up λc V'=>X c (wb V (AF u) V')) c s->Up X c s:=λc s z=>by
     obtain⟨t,⟨τ,ht,O,z⟩,Y,T,B⟩:=z;refine Ao (back O ht Y T B) λk1 y=>?_;exact⟨_,y,k1,z⟩
    cases mu with
    |none =>
     refine CT.own (CallT.mono (CallT.frame hp (CallT.relab q.1)) (λa s z=>?_) xx) U;obtain⟨t,⟨r,τ,e,O,ht,z⟩,Y,T,B⟩:=z;refine Ao (back O ht Y T B) λk1 y=>?_;subst e;exact⟨_,y,k1,z⟩
    |some i =>
     refine CT.own (CallT.mono (CallT.frame hp (CallT.relab (q.2 i))) (λa s z=>?_) xx) U;obtain⟨t,⟨r,τ,as,e,O,ht,nd,len,at_,z⟩,Y,T,B⟩:=z;refine Ao (back O ht Y T B) λk1 y=>?_;subst e;obtain⟨τ',k',hs',z⟩:=FG k1 y nd len (λj p hp=>by
      refine X1ppp (at_ j p hp) λa h2 h3 h4=>?_;refine⟨a,h2,Y a p h3,?_⟩
      cases e:Au (wb V (AF u) τ) a with
      |none=>rfl
      |some p' =>
       refine X1p (Ba e) λjj Z=>?_
       rcases C6 n Z with⟨n1,z1⟩|⟨p1,e1,z1⟩
       .rcases B a (Bu h3)with w1|w1
        .refine X1p (Cm w1) λp2 e2=>?_
         refine X1p (Ba e2) λp3 z3=>?_;refine X1pp (BK z3) λi' e4 z4=>?_
         have:=Bh o z1 z4
         clear z4;subst this;exact(n1 (ag e4)).elim
        .rw[Av o z1]at w1;exact nS' w1
       .rw[Av O z1]at h4;exact nS' h4) z
     exact⟨τ',hs',k',z⟩
   .exact q.elim
theorem Snd.fn{Φ:Tab}{k:Nat}{U:Addr}{c:Ap}{rs:Rs}{nv ns:Nat}{f:FS}(T:TabOk S W k Φ)(B:IsFn S U c)(h:FnOk Φ c rs nv ns f):Snd S (k+1) (.ref U) f :=
 Snd.of (λu V K X o q=>⟨D1 T B o (h.spec _ _ _ _ q) λok hs z=>CD ok hs z,λi=>D1 T B o (h.spec _ _ _ _ q) λok hs z=>HJ ok hs z⟩)
  λu v O=>D1 (V:=[]) T B trivial (h.pure u v O _ rfl) λok hs z=>CD ok hs z
theorem KeyT.fn{Φ:Tab}{k:Nat}{B:Addr}{c:Ap}{rs:Rs}{nv ns:Nat}{f:FS}{ky:AV->Option Ag}(T:TabOk S W k Φ)(hf:IsFn S B c)(h:FnOk Φ c rs nv ns f)(e:∀x p,ky x=some p->f.pure [x]=some (sp p))(x:AV)(d:(ky x).isSome=true):KeyT S (k+1) (.ref B) (Du ky) [x]:=by
 intro u Y V Q q;obtain rfl:=aR.mp Y
 cases hp:ky u with
 |none=>rw[hp]at d;exact nF d
 |some p =>
  have hk:Du ky u=p:=by unfold Du;rw[hp]
  rw[hk]at q;have h2:CallT S (k+1) (.ref B) [u] (Au []) (OutF λr Z=>r=⟨[],.val (sp p)⟩) (Up BZ):=D1 (V:=[]) T hf trivial (h.pure [u] _ (e u p hp) _ rfl) λok hs z=>CD ok hs z;intro N A U s O hi rl;refine dG (CallT.frame (V:=V) (λa p e=>by exact nS e) h2 N A U s O hi rl) λr s' z=>?_
  cases r with
  |error e =>
   obtain⟨ea,c,t,Ak,h1,h2,h3,h4,t',⟨τ,_,_,z⟩,_⟩:=z;exact z.elim
  |ok fl =>
   cases fl with
   |ret v =>
    obtain⟨av,t,st,i,ra,t',⟨r,τ,e,_,_,e'⟩,s1,s2,_⟩:=z;subst e';subst e;refine Ao (i.drop (V':=V) λa p e=>s2 a p e rfl) λi2 y=>?_;exact⟨_,V,st.trans (y.wide λZ h=>h.elim),i2,Rep.step y (λZ h=>h.elim) (λZ h=>h.elim) ra,q⟩
   |_=>exact z.elim
end
section
end
section
variable {S:Sta}{W:Wd}
noncomputable def AV.loc?:AV->Option Addr
 |.loc a _=>some a
 |_=>aa
noncomputable def floor?(τ:LS):Option (((Addr×Addr)×Addr×List (Str×AV))×((Str×AV)×(Str×AV))×Addr×Addr×List (Ag×AV)):=(fields? τ 0).bind λf=>(two? f.2.2).bind λp=>p.2.2.loc?.bind λe=>(slot τ 2).obj?.bind λg=>g.2.dict?.bind λl=>some (f,p,e,g.1,l)
def madeW(n:Nat)(x dx:Addr)(τ:LS)(K:KR):Prop:=match floor? τ with
 |some q=>(q.1.1.1=x/\q.1.1.2=dx/\q.1.2.1=dx/\q.2.2.2.1=q.2.2.1/\q.2.1.1.1 = "texts"/\q.2.1.2.1 = "own")/\K ⟨[],.val (.inst (FJ q.2.1.1.2 (.dict q.2.2.2.2)))⟩ ((τ.drop 3).take n)
 |aa=>False
theorem AV.loc?_out{a:AV}{x:Addr}(h:a.loc?=some x):∃i,a=.loc x i:=by
 cases a with
 |loc y i=>obtain rfl:=ae h;exact⟨i,rfl⟩
 |_=>exact(Am rfl h).elim
inductive MadeV(n:Nat)(x dx:Addr)(τ:LS)(K:KR):Prop
 |mk (t:AV)(e i:_)(l:List (Ag×AV))(z0:slot τ 0=.at x (.inst dx))(z1:slot τ 1=.at dx (.attrs (FJ t (.loc e i))))(z2:slot τ 2=.at e (.dict l))(h:K ⟨[],.val (.inst (FJ t (.dict l)))⟩ ((τ.drop 3).take n)):MadeV n x dx τ K
theorem madeW.out{n:Nat}{x dx:Addr}{τ:LS}{K:KR}(h:madeW n x dx τ K):MadeV n x dx τ K:=by
 unfold madeW at h
 cases q:floor? τ with
 |none=>rw[q]at h;exact h.elim
 |some r =>
  rw[q]at h;refine X1pp (AD q) λf h1 q=>?_;refine X1pp (AD q) λp h2 q=>?_;refine X1pp (AD q) λe d q=>?_;refine X1pp (AD q) λg y q=>?_;refine X1pp (AD q) λl T q=>?_;obtain rfl:=ae q;obtain⟨⟨rfl,rfl,B,Y,u,U⟩,h⟩:=h;refine Ao (fields?_out h1) λz O=>?_;dsimp only at B Y u U h;refine X1p (AV.loc?_out d) λi e3=>?_;refine⟨p.1.2,e,i,l,z,?_,?_,h⟩
  .rw[O,B,E4 h2 u U,e3]
  .rw[obj?_out y,Y,AObj.dict?_out T]
def makeW(Φ:Tab)(c:Ap)(nv ns:Nat)(avs:List AV)(V:LS)(K:KR)(X:XL):Prop :=
 avs.length+1=c.n/\∀x dx,wpSs Φ c.body (λe τ=>X e ((τ.drop 3).take V.length)) (some (.loc x 0)::avs.map some++aP nv aa) (.at x (.inst dx)::.at dx (.attrs [])::.no::V++aP ns .no) (λfl Z τ=>flV fl=.none/\madeW V.length x dx τ K)
inductive Made(n:Nat)(x dx:Addr)(K:KR)(v:AV)(s:Store):Prop
 |mk (τ:LS)(e:v=.none)(o:okS τ)(hs:Sub τ s)(h:madeW n x dx τ K):Made n x dx K v s
theorem KY{Φ:Tab}{k:Nat}{U:Addr}{c:Ap}{nv ns:Nat}{u:List AV}{V:LS}{K:KR}{X:XL}{x dx:Addr}(T:TabOk S W k Φ)(d:IsFn S U c)(o:okS (.at x (.inst dx)::.at dx (.attrs [])::.no::V))(h:makeW Φ c nv ns u V K X) :
  CallT S (k+1) (.ref U) (.loc x 0::u) (Au (.at x (.inst dx)::.at dx (.attrs [])::.no::V)) (Made V.length x dx K) (Up λe τ=>X e ((τ.drop 3).take V.length)):=by
 refine CallT.body d h.1 λF y ht Y O B=>?_
 have:=BV T c.body _ F (dH y.symm) Y ⟨O,B⟩ _ _ _ (C9 (n:=ns) o) (h.2 x dx)
 rw[Cr,show (some (AV.loc x 0)::u.map some++aP nv aa)=(AV.loc x 0::u).map some++aP nv aa from rfl,Hw,E3]at this
 refine SsT.mono this λfl m s z=>?_;obtain⟨m1,τ,em,hs,ok,e,z⟩:=z;refine λN=>⟨flV fl,s,?_,τ,e,ok,hs,z⟩;show View S N (flV fl) s (flV fl) s;exact View.same
theorem JY{V:LS}{n p:Nat}:slot (V.drop n) p=slot V (n+p):=by
 unfold slot;rw[aB,aB,List.getElem?_drop]
set_option tactic.hygienic true in
theorem Snd.make{Φ:Tab}{k:Nat}{fI:Addr}{c:Ap}{nv ns:Nat}{f:FS}(T:TabOk S W k Φ)(hi:eE S.K (.ref W.C) "__init__"=some (some (.ref fI)))(ht:isFn S.K (.ref fI)=true)(hf:IsFn S fI c)(hp:∀O,f.pure O=aa)(hw:f.whole=false)
  (h:∀O V K X,f.spec (A1 O 0) V K X->makeW Φ c nv ns (A1 O 3) V K X):Snd S (k+2) (.ref W.C) f:=by
 intro F hk m mu O V K X o q;unfold ownW at q;rw[hp,hw]at q;dsimp only at q
 split at q
 .rename_i hn
  have n:=DO hn;refine Ao (Kj (ix:=AF O) o n) λkp hps=>?_;have q:=h _ _ _ _ q;refine CT.make (k:=k+1) T.good.floor hi ht hk λx dx nx ndx hne=>?_;have zx:∀{i a p},slot V i=.at a p->a≠x/\a≠dx:=λz=>⟨λe=>nx (e▸Bu (Av o z)),λe=>ndx (e▸Bu (Av o z))⟩;have nL:∀{a p},Au ((AF O).map (slot V)) a=some p->a≠x/\a≠dx:=λe=>by
   refine X1p (Ba e) λp z=>?_;refine X1pp (BK z) λi Z z=>?_;exact zx z
  have nn:∀{a},(a=x\/a=dx)->Au ((AF O).map (slot V)) a=aa:=λ{a} e=>by
   cases z:Au ((AF O).map (slot V)) a with|none=>rfl|some p=>exact(e.elim (nL z).1 (nL z).2).elim
  have oI:okS (.at x (.inst dx)::.at dx (.attrs [])::.no::(AF O).map (slot V)):=by
   refine⟨?_,nn (.inr rfl),kp⟩;show (if x=dx then _ else Au ((AF O).map (slot V)) x)=_;rw[if_neg hne];exact nn (.inl rfl)
  have sI:∀a p,Au (.at x (.inst dx)::.at dx (.attrs [])::.no::(AF O).map (slot V)) a=some p->((Au V).set dx (.attrs [])).set x (.inst dx) a=some p:=λa p e=>by
   have e:(if a=x then some (AObj.inst dx) else if a=dx then some (AObj.attrs []) else Au ((AF O).map (slot V)) a)=some p:=e
   by_cases z:a=x
   .rw[if_pos z]at e;rw[z,Store.set_self];exact e
   .rw[if_neg z]at e
    rw[Store.set_ne _ _ z]
    by_cases z':a=dx
    .rw[if_pos z']at e;rw[z',Store.set_self];exact e
    .rw[if_neg z']at e
     rw[Store.set_ne _ _ z'];exact hps _ _ e
  have lab:∀{l:List AV}{Q:AV->Store->Prop}{Y:KX}{s:Store},CallT S (k+1) (.ref fI) (.loc x 0::A1 l 3) s Q Y->CallT S (k+1) (.ref fI) (.loc x 0::l) s Q Y:=λ{l Q Y s} h N A vals u room hi rl=>h N A vals u room hi (by
   refine X2lpp vals rl.inv λv r r1 r2=>?_;exact .cons r1 (CF r2))
  have hdel:∀{τ:LS}{t s:Store}{as:List Addr},okS τ->Sub τ t->(∀a p,t a=some p->s a=some p)->(∀a p,((Au V).set dx (.attrs [])).set x (.inst dx) a=some p->Au (.at x (.inst dx)::.at dx (.attrs [])::.no::(AF O).map (slot V)) a=aa->s a=some p)->(∀a,Dom t a->Dom (Au (.at x (.inst dx)::.at dx (.attrs [])::.no::(AF O).map (slot V))) a\/((Au V).set dx (.attrs [])).set x (.inst dx) a=aa) ->
    (∀a∈as,∃j p,j<3/\slot τ j=.at a p)->okS (wb V (AF O) ((τ.drop 3).take ((AF O).map (slot V)).length))/\Sub (wb V (AF O) ((τ.drop 3).take ((AF O).map (slot V)).length)) (s.dels as):=λ{τ t s as} B ht s1 s2 nw has=>by
   have zt:∀{p a q},slot ((τ.drop 3).take ((AF O).map (slot V)).length) p=.at a q->slot τ (3+p)=.at a q:=λz=>by
    have:=(BB z).2;rw[JY]at this;exact this
   have kt':okS ((τ.drop 3).take ((AF O).map (slot V)).length):=Ey λi j a p q h1 h2=>by
    have:=Bh B (zt h1) (zt h2);exact ar (lin [i,j] [] (.b V0 V1) [.d (.A K3 V0) (.A K3 V1)] rfl this) (lin [i,j] [] (.b V1 V0) [.D (-1) (.A K3 V0) (.A K3 V1)] rfl this)
   have dom1:∀{a p q},slot τ (3+p)=.at a q->Dom (Au ((AF O).map (slot V))) a\/Au V a=aa:=λ{a p q} z=>by
    have dt:Dom t a:=Bu (ht.at B z)
    by_cases zx':a=x
    .exact .inr (by rw[zx'];exact Da nx)
    by_cases zd:a=dx
    .exact .inr (by rw[zd];exact Da ndx)
    rcases nw a dt with y|y
    .left
     refine X1p (Cm y) λp' e=>?_;have e:(if a=x then some (AObj.inst dx) else if a=dx then some (AObj.attrs []) else Au ((AF O).map (slot V)) a)=some p':=e;rw[if_neg zx',if_neg zd]at e;exact Bu e
    .rw[Store.set_ne _ _ zx',Store.set_ne _ _ zd]at y;exact .inr y
   refine wb_ok o n kt' (λa p e=>?_) (λa p e e'=>?_) λa d=>?_
   .refine X1p (Ba e) λi z=>?_
    have z:=zt z;unfold Store.dels;rw[if_neg]
    .exact s1 _ _ (ht.at B z)
    .intro q
     refine X2pp (has a q) λj p' hj z'=>?_
     have:=Bh B z z';exact lin [j,i] [] .no [.c V0 K3,.d (.A K3 V1) V0] rfl hj this
   .have U:a≠x/\a≠dx:=by refine X1p (Ba e) λi z=>?_;exact zx z
    unfold Store.dels;rw[if_neg]
    .refine s2 a p (by rw[Store.set_ne _ _ U.1,Store.set_ne _ _ U.2];exact e) ?_
     show (if a=x then _ else if a=dx then _ else Au ((AF O).map (slot V)) a)=_;rw[if_neg U.1,if_neg U.2];exact e'
    .intro q
     refine X2pp (has a q) λj p' hj z'=>?_;have dt:Dom t a:=Bu (ht.at B z')
     rcases nw a dt with y|y
     .refine X1p (Cm y) λp2 e2=>?_
      have e2:(if a=x then some (AObj.inst dx) else if a=dx then some (AObj.attrs []) else Au ((AF O).map (slot V)) a)=some p2:=e2;rw[if_neg U.1,if_neg U.2,e']at e2;exact nS e2
     .rw[Store.set_ne _ _ U.1,Store.set_ne _ _ U.2,e]at y;exact nS' y
   .refine X1p (Cm d) λp e=>?_
    refine X1p (Ba e) λi z=>?_;exact dom1 (zt z)
  refine CallT.mono (CallT.frame sI (lab (KY T hf oI q))) (λv s z=>?_) λc s z=>?_
  .obtain⟨t,⟨τ,e,B,ht,z⟩,s1,s2,nw⟩:=z
   refine⟨e,λN=>?_⟩;obtain⟨tx,f',i',l,z0,z1,z2,z⟩:=z.out
   ··.refine⟨_,_,View.inst (fs':=FJ tx (.dict l)) (as:=[f']) (s1 _ _ (ht.at B z0)) (s1 _ _ (ht.at B z1)) (FrozeF.cons (as:=[]) (.same _) (FrozeF.cons (as:=[f']) (bs:=[]) (.dict (s1 _ _ (ht.at B z2))) .nil)),?_⟩
      obtain⟨k1,h1⟩:=hdel (as:=[x,dx,f']) B ht s1 s2 nw (λa ha=>by
       rcases ax.mp ha with rfl|ha
       .exact⟨0,_,by decide,z0⟩
       .rcases ax.mp ha with rfl|ha
        .exact⟨1,_,by decide,z1⟩
        .have:=aR.mp ha;clear z1 ha;subst this;exact⟨2,_,by decide,z2⟩)
      cases mu with|none=>exact⟨_,h1,k1,z⟩|some i=>exact⟨_,h1,k1,z⟩
  .obtain⟨t,⟨τ,ht,B,z⟩,s1,s2,nw⟩:=z
   obtain⟨k1,h1⟩:=hdel (as:=[]) B ht s1 s2 nw (λa ha=>by exact nM ha)
   exact⟨_,λa p e=>(CN (h1 a p e)).2,k1,z⟩
 .exact q.elim
end
section
variable {S:Sta}{W:Wd}
noncomputable def Vars.del(m:Vars)(i:Nat):Vars:=λj=>if j=i then aa else m j
theorem Kw{F:Fx S}{m:Vars}{V:Store}{i:Nat}{x:Str}{pos:Pos}{s:af}{X:Value->af->Prop}{Q':Unit->af->Prop}(hf:F.sc.lookup x≠some .free)(hx:IsV F.tb F.sc x i)(hs:F.St m V s)
  (hQ:∀s',Step F.P F.O V s V s'->F.St (Vars.del m i) V s'->Q' () s'):wpAny (model S.prog S.w) F.A (do bindName F.env x .none;unbindBehindTheSuite F.env x pos) Q' X s:=by
 refine ac (wpAny_bindName (BJ (av:=.none) hf hx hs .none λAc Ai Ad=>?_));unfold unbindBehindTheSuite;refine wpAny_onRaise ?_;unfold unbindName;refine ac (wpAny_point (ac ?_));obtain⟨mc,cm,n,c,o,ap,cl,rr⟩:=Ad.loc;have kd:∀y,F.env.kindOf y=F.sc.lookup y:=λZ=>rfl;have ne:∀{y:Str}{j:Nat}{bv:AV},ixS F.tb y=some j->Vars.del m i j=some bv->y≠x/\Vars.set m i .none j=some bv:=by
  intro y j bv hj hm;unfold Vars.del at hm
  by_cases q:j=i
  .rw[if_pos q]at hm;exact nS hm
  .rw[if_neg q]at hm
   exact⟨λe=>by clear hf;subst e;rw[hx.ix]at hj;exact q (ae hj).symm,by unfold Vars.set;rw[if_neg q];exact hm⟩
 have hxm:Vars.set m i .none i=some .none:=if_pos rfl
 rcases hx.kind with q|q|q
 .have hp:(F.env.scope.kind == .class || (F.env.scope.kind == .module && F.env.locals != F.env.globals))=false:=by rw[F.fk];rfl
  have u:=rr x i .none hx.ix hxm;rw[kd,q]at u;refine X1pp u λv u Z=>?_;unfold deleteName;simp only[(kd x).trans q,hp];rw[if_neg (by decide)]
  refine ac (wpAny_nsDel_keeps n λh' v' hn B=>?_);rw[u];simp only[gu,gO,cg,if_false];have hk:∀U oc,U≠F.env.locals->Ac.heap.get? U=some oc->h'.get? U=some oc:=λU oc ne e=>B.extBut U oc ne e;have hL:∃oo,h'.get? F.env.locals=some oo:=by refine X3pp hn λoo Z Z e Z=>?_;exact⟨oo,e⟩
  have e0:Ext (F.D V) Ac.heap h':=Ext.of_but λU oc d e=>hk U oc (λq=>d (.inr (q▸Ad.own _ (.inl rfl)))) e;have Y:Loc S.cv S.g F.tb F.env (Vars.del m i) F.N V h':=by
   refine⟨_,cm,hn,λy U hy=>?_,o,ap,cl,λy j bv hj hm=>?_⟩
   .refine X1pp (c y U hy) λob e hd=>?_
    exact⟨ob,hk U ob (cl y U hy) e,hd⟩
   .refine Ao (ne hj hm) λny hm'=>?_
    exact LocAt.map (rr y j bv hj hm') (λh2=>h2.ext e0 λZ h=>.inl h) (λZ h1=>(if_neg ny).trans h1) (λZ h1=>h1)
  refine Ao (St.own_turn (tk:=Ac.toks) Ad (.inl rfl) hk hL Y) λst2 h2=>?_;exact ah (wpAny_point (hQ _ (Ai.trans st2) h2))
 .refine X1p (F.fc x ((kd x).trans q)) λU T=>?_
  have u:=rr x i .none hx.ix hxm;rw[kd,q]at u;refine X2ppp u λv Z Z u Z=>?_;unfold deleteName;simp only[(kd x).trans q];refine ac (wpAny_cellOf T ?_);refine ac (wpAny_cellGet (c x U T) ?_);rw[u];simp only[gu,if_true];refine wpAny_cellSet (c x U T) λh' hv' B=>?_;have hk:∀d od,d≠U->Ac.heap.get? d=some od->h'.get? d=some od:=λd od ne e=>B.extBut d od ne e;have hL:∃oo,h'.get? U=some oo:=by refine X1pp hv' λoo e Z=>?_;exact⟨oo,e⟩
  have e0:Ext (F.D V) Ac.heap h':=Ext.of_but λd od dd e=>hk d od (λq=>dd (.inr (q▸Ad.own _ (.inr ⟨x,T⟩)))) e;have Y:Loc S.cv S.g F.tb F.env (Vars.del m i) F.N V h':=by
   refine⟨mc,λy=>if y=x then aa else cm y,n.sameBut B (d0 (cl x U T)),λy d hy=>?_,o,ap,cl,λy j bv hj hm=>?_⟩
   .by_cases e:y=x
    .clear hf hx ne q u;subst e;rw[T]at hy;obtain rfl:=ae hy;simp only[if_true];exact hv'
    .simp only[if_neg e]
     refine X1pp (c y d hy) λob eo hd=>?_;exact⟨ob,hk d ob (λz=>e (ap y x d hy (z▸T))) eo,hd⟩
   .refine Ao (ne hj hm) λny hm'=>?_
    exact LocAt.map (rr y j bv hj hm') (λh2=>h2.ext e0 λZ h=>.inl h) (λZ h1=>h1) (λZ h1=>(if_neg ny).trans h1)
  refine Ao (St.own_turn (tk:=Ac.toks) Ad (.inr ⟨x,T⟩) hk hL Y) λst2 h2=>?_;exact wpAny_point (hQ _ (Ai.trans st2) h2)
 .exact absurd q hf
open Classical in
noncomputable def H6(h:Heap)(P:Addr->Prop):Heap:=hideAll h ((bp h.objs.size).filter λa=>decide (¬P a))
theorem Cd{h:Heap}{P:Addr->Prop}{a:Addr}{o:Obj}(e:h.get? a=some o)(p:P a):(H6 h P).get? a=some o :=
 hideAll_get _ e λq=>by
  have:=(bE.mp q).2
  simp[p]at this
theorem DM{h:Heap}{P:Addr->Prop}{a:Addr}{o:Obj}(e:(H6 h P).get? a=some o):h.get? a=some o/\P a:=by
 have y:=of_hideAll _ e;refine⟨y,cH λn=>?_⟩
 have:(H6 h P).get? a=aa:=hideAll_none _ (bE.mpr ⟨fp.mpr (bc y),by simp[n]⟩)
 rw[this]at e;exact nS e
theorem St.land{F:Fx S}{m:Vars}{V:Store}{Ak s':af}{base:Heap}{l:List Env}(hs:F.St m V Ak)(hA:F.A.frames=some l)(U:∀b o,Ak.heap.get? b=some o->¬GB l b->base.get? b=some o)
  (stays:base.StaysIn s'.heap) (up:Ak.heap.UpToSlots s'.heap) (B:s'.gens=Ak.gens/\s'.drawn=Ak.drawn/\s'.os=Ak.os):F.St m V s':=by
 have keep:∀b o,Ak.heap.get? b=some o->¬F.P b->s'.heap.get? b=some o:=λb o e n=>stays b o (U b o e λq=>n ⟨l,hA,q⟩);have z:∀b o,Ak.heap.get? b=some o->F.P b->(∀vs,o.data≠.fields vs)/\∃u,s'.heap.get? b=some { o with slots:=u }:=λb o e p=>by
  refine X1pp (hs.inv.Nin b (hs.pN b p)) λo' y nf=>?_;rw[e]at y;obtain rfl:=ae y;exact⟨nf,up b o e nf⟩
 have st:Step F.P noO V Ak V s':=by
  refine⟨⟨λb o e d=>keep b o e λq=>d (.inr (.inr q))⟩,λb o e p Z Z=>?_,λZ h=>.inl h,λb o e=>?_⟩
  .refine Ao (z b o e p) λZ Z0=>?_
   refine X1p Z0 λu y=>?_;exact⟨_,y,rfl,rfl,rfl⟩
  .by_cases p:F.P b
   .refine Ao (z b o e p) λZ Z1=>?_
    refine X1p Z1 λu y=>?_;exact⟨_,y⟩
   .exact⟨o,keep b o e p⟩
 have gP:∀{b o},S.g.get? b=some o->¬F.P b:=λ{b o} e p=>by
  refine X1pp F.room.fr λl' el h=>?_;refine X1pp p λl2 Y Z2=>?_;refine X1pp Z2 λev O hf=>?_;rw[el]at Y;obtain rfl:=ae Y;refine Ao (h ev O) λZ Z3=>?_;refine X1ppp Z3 λL h2 Z h4=>?_;rw[hf]at h2;obtain rfl:=ae h2;rw[h4]at e;exact nS e
 refine hs.to st ⟨λb o e=>keep b o (hs.inv.keep b o e) (gP e),B.1.trans hs.inv.gens,B.2.1.trans hs.inv.drawn,B.2.2.trans hs.inv.os,hs.inv.σg,hs.inv.σN,λa q=>?_,λa o e=>?_⟩ λZ h=>h
 .refine X1pp (hs.inv.Nin a q) λo e nf=>?_
  by_cases p:F.P a
  .refine Ao (z a o e p) λZ Z4=>?_
   refine X1p Z4 λu y=>?_;exact⟨_,y,nf⟩
  .exact⟨o,keep a o e p,nf⟩
 .exact(hs.inv.rep a o e).ext (⟨λb T eb d=>keep b T eb λp=>d (.inr (hs.pN b p))⟩:Ext (DN F.N V) Ak.heap s'.heap) (λZ h=>.inl h)
   λT eo=>keep a T eo λp=>hs.inv.σN a (by unfold Dom;rw[e];simp) (hs.pN a p)
theorem Loc.atG{cv:Nat->Value}{g T h:Heap}{tb:List Nat}{env:Env}{m:Nat->Option AV}{N:Addr->Prop}{V:Store}(l:Loc cv g tb env m N V h)(k:∀a,Own env a->T.get? a=aa):Loc cv T tb env m N V h:=by
 obtain⟨d,u,n,c,o,Y,cl,r⟩:=l;exact⟨d,u,n,c,λa ha=>⟨(o a ha).1,k a ha⟩,Y,cl,r⟩
noncomputable def Fx.hand(F:Fx S){g':Heap}{k:∀b o,S.g.get? b=some o->g'.get? b=some o}{ea:Addr}{hx:∃o vs,g'.get? ea=some o/\o.data=.fields vs/\vs[2]?=some bo}(b':Store×af)(room:Room (S.grow g' k ea hx) F.N F.k (F.A.mark (some (.ref ea)))):Fx (S.grow g' k ea hx) :=
 ⟨F.A.mark (some (.ref ea)),F.tb,F.env,b',F.N,F.k,room,F.fk,F.fg,F.fb,F.fc⟩
inductive Grown(F:Fx S)(m:Vars)(V:Store)(s:af)(ea:Addr):Prop
 |mk (g':Heap) (k:∀b o,S.g.get? b=some o->g'.get? b=some o) (hx:∃o vs,g'.get? ea=some o/\o.data=.fields vs/\vs[2]?=some bo) (b':Store×af) (room:Room (S.grow g' k ea hx) F.N F.k (F.A.mark (some (.ref ea)))) (st:(F.hand b' room).St m V s)
   (back:∀As Ab Aj,(F.hand b' room).St As Ab Aj->F.St As Ab Aj):Grown F m V s ea
theorem St.grown{F:Fx S}{m:Vars}{V:Store}{s:af}{ea:Addr}{T:Obj}{vs:Array Value}(hs:F.St m V s)(he:s.heap.get? ea=some T)(hd:T.data=.fields vs)(h2:vs[2]?=some bo)
  (nD:¬Dom V ea) (nN:¬F.N ea) (nb:F.b.2.heap.get? ea=aa) :
  Grown F m V s ea:=by
 have k:∀b o,S.g.get? b=some o->(H6 s.heap (λa=>S.g.get? a≠aa\/a=ea)).get? b=some o:=λb o e=>Cd (hs.inv.keep b o e) (.inl (by rw[e];simp))
 have hx:∃o vs,(H6 s.heap (λa=>S.g.get? a≠aa\/a=ea)).get? ea=some o/\o.data=.fields vs/\vs[2]?=some bo:=⟨T,vs,Cd he (.inr rfl),hd,h2⟩;have B:∀{a},S.g.get? a=aa->a≠ea->(H6 s.heap (λa=>S.g.get? a≠aa\/a=ea)).get? a=aa:=λ{a} h n=>by
  cases q:(H6 s.heap (λa=>S.g.get? a≠aa\/a=ea)).get? a with|none=>rfl|some o=>exact((DM q).2.elim (λz=>z h) n).elim
 have u:∀{a},F.b.2.heap.get? a=aa->a≠ea->(H6 s.heap (λa=>F.b.2.heap.get? a≠aa\/a=ea)).get? a=aa:=λ{a} h n=>by
  cases q:(H6 s.heap (λa=>F.b.2.heap.get? a≠aa\/a=ea)).get? a with|none=>rfl|some o=>exact((DM q).2.elim (λz=>z h) n).elim
 have room:Room (S.grow _ k ea hx) F.N F.k (F.A.mark (some (.ref ea))):=by
  refine⟨rfl,?_,F.room.dp,F.room.un⟩;refine X1pp F.room.fr λl el h=>?_;refine⟨l,el,λev hev=>?_⟩;refine Ao (h ev hev) λh1 Z0=>?_;refine X1ppp Z0 λL h2 h3 h4=>?_;exact⟨h1,L,h2,h3,B h4 λz=>nN (z▸h3)⟩
 obtain⟨mc,cm,ns,cc,ow,ap,cl,rr⟩:=hs.loc;refine⟨_,k,hx,(F.b.1,{ F.b.2 with heap:=H6 s.heap (λa=>F.b.2.heap.get? a≠aa\/a=ea) }),room,?_,?_⟩
 .refine⟨⟨λb o e=>(DM e).1,hs.inv.gens,hs.inv.drawn,hs.inv.os,λa d=>B (hs.inv.σg a d) λz=>nD (z▸d),hs.inv.σN,hs.inv.Nin,hs.inv.rep⟩,?_,?_,hs.pN,?_,hs.own,?_⟩
  .exact hs.loc.atG λa ha=>B (ow a ha).2 λz=>nN (z▸hs.own a ha)
  .exact Step.of_keeps (λb o e=>(DM e).1) λa d=>(hs.frm.dom a d).imp id λq=>u q λz=>nD (z▸d)
  .exact λa ha=>u (hs.new a ha) λz=>nN (z▸hs.own a ha)
  .intro a e
   cases q:(H6 s.heap (λa=>S.g.get? a≠aa\/a=ea)).get? a with
   |none=>exact q
   |some o =>
    exfalso
    refine Ao (DM q) λq1 q2=>?_
    have:(H6 s.heap (λa=>F.b.2.heap.get? a≠aa\/a=ea)).get? a=some o:=Cd q1 (q2.imp (λz y=>z (hs.gb a y)) id)
    have O:(H6 s.heap (λa=>F.b.2.heap.get? a≠aa\/a=ea)).get? a=aa:=e;rw[this]at O;exact nS' O
 .intro As Ab Aj h
  refine⟨⟨λb o e=>h.inv.keep b o (k b o e),h.inv.gens,h.inv.drawn,h.inv.os,λa d=>?_,h.inv.σN,h.inv.Nin,h.inv.rep⟩,?_,?_,hs.pN,hs.new,hs.own,hs.gb⟩
  .cases q:S.g.get? a with|none=>rfl|some o=>have e1:=h.inv.σg a d;have e2:=k a o q;exact absurd (e2.symm.trans e1) (by simp)
  .exact h.loc.atG λa ha=>(ow a ha).2
  .have U:Step F.P noO F.b.1 F.b.2 F.b.1 { F.b.2 with heap:=H6 s.heap (λa=>F.b.2.heap.get? a≠aa\/a=ea) }:=by
    refine⟨⟨λb o e d=>Cd (hs.frm.ext.obj b o e d) (.inl (by rw[e];simp))⟩,λb o e p ho d=>?_,λZ h=>.inl h,λb o e=>?_⟩
    .refine X1pp (hs.frm.frm b o e p ho d) λY O r=>?_;exact⟨Y,Cd O (.inl (by rw[e];simp)),r⟩
    .refine X1p (hs.frm.there b o e) λY O=>?_;exact⟨Y,Cd O (.inl (by rw[e];simp))⟩
   exact U.trans h.frm
theorem CSs.one{tb:List Nat}{sc:Nms}{ps:List Stmt}{st:Internal.S}(h:CSs tb sc ps [st]):∃p,ps=[p]/\CS tb sc p st:=by
 refine X2lpp ps h.inv λp r Y z=>?_;obtain rfl:=z.inv_nil;exact⟨_,rfl,Y⟩
inductive Fell(F:Fx S)(m:Vars)(X:KX)(g:Nat)(lt:List Env)(e:Value)(Ac:af):Prop
 |mk (ea:Addr) (c:Nat) (V':Store) (Ak:af) (base:Heap) (C:Addr) (he:e=.ref ea) (fly:FlyY base (F.env::lt) ea (S.cv c) .none Ac.heap) (hbase:∀b o,Ak.heap.get? b=some o->¬GB (F.env::lt) b->base.get? b=some o) (up:Ak.heap.UpToSlots Ac.heap)
   (rest:Ac.gens=Ak.gens/\Ac.drawn=Ak.drawn/\Ac.os=Ak.os) (st:F.St m V' Ak) (x:X c V') (sub:exmOne S.K (S.cv c) (S.cv g)=some true) (cls:S.cv c=.ref C):Fell F m X g lt e Ac
theorem XF.fell{F:Fx S}{m:Vars}{X:KX}{g:Nat}{lt:List Env}{e:Value}{Ac:af}(z:XF F m X e Ac)(y:F.A.frames=some (F.env::lt))(u:∀c V',X c V'->exmOne S.K (S.cv c) (S.cv g)=some true/\∃C,S.cv c=.ref C):Fell F m X g lt e Ac:=by
 obtain⟨T,c,V',Ak,O,o,BY,d⟩:=z;refine X2ppp o.fly λbase l Y fly U=>?_;obtain rfl:l=F.env::lt:=ae (Y.symm.trans y);refine X1p ((u c V' d).2) λC B=>?_;exact⟨T,c,V',Ak,base,C,O,fly,U,o.up,o.rest,BY,d,(u c V' d).1,B⟩
theorem FlyY.looks{base:Heap}{l:List Env}{d:Addr}{cls fl:Value}{h:Heap}(x:FlyY base l d cls fl h):Looks (model S.prog S.w) h (typeOf (.ref d)) cls:=by
 refine X5pppppp x.tr λz vs T oT B u y U O Y Z=>?_;rw[<- y];exact(Looks.ld u).andThen .now
inductive Caught(F:Fx S)(m:Vars)(V:Store)(s:af)(ea:Addr)(c:Nat):Prop
 |mk (g:Grown F m V s ea)(rx:Rep S.cv s.heap (DN F.N V) (.exc c) (.ref ea)):Caught F m V s ea c
theorem caught{F:Fx S}{m:Vars}{V:Store}{Ak s:af}{base:Heap}{lt:List Env}{ea C:Addr}{c:Nat}{fl:Value}(elt:F.A.frames=some (F.env::lt))(BY:F.St m V Ak)(L:F.St m V s)(fly:FlyY base (F.env::lt) ea (S.cv c) fl s.heap)(Y:∀b o,Ak.heap.get? b=some o->¬GB (F.env::lt) b->base.get? b=some o)
  (up:Ak.heap.UpToSlots s.heap) (hC:S.cv c=.ref C):Caught F m V s ea c:=by
 obtain⟨oe,vs,T,oT,ts,u,y,U,⟨hv2,hdc⟩,_⟩:=fly.tr;have B:∀{b o},Ak.heap.get? b=some o->b≠ea:=λ{b o} O z=>by
  by_cases p:GB (F.env::lt) b
  .refine X1pp (BY.inv.Nin b (BY.pN b ⟨_,elt,p⟩)) λo' e' nf=>?_
   refine X1p (up b o' e' nf) λsl e4=>?_;rw[z,u]at e4
   have:=ae e4
   exact nf vs (by rw[this]at U;exact U)
  .have:=Y b o O p
   rw[z,fly.new]at this;exact nS this
 have nD:¬Dom V ea:=λd=>by refine X1p (BY.inv.dom_there d) λo O=>?_;exact B O rfl
 have nN:¬F.N ea:=λd=>by refine X1pp (BY.inv.Nin ea d) λo O Z=>?_;exact B O rfl
 have nbb:F.b.2.heap.get? ea=aa:=by
  cases z:F.b.2.heap.get? ea with|none=>rfl|some o=>refine X1p (BY.frm.there _ _ z) λo' O=>?_;exact(B O rfl).elim
 exact⟨St.grown L u U hv2 nD nN nbb,.exc u y ⟨⟨_,U⟩,hdc⟩ (λd=>d.elim nD nN) ⟨C,hC⟩⟩
theorem CallT.try_{k:Nat}{f:Addr}{c:Ap}{y:List AV}{V:Store}{Q:AV->Store->Prop}{X:KX}{e:E}{i g:Nat}{h0:Internal.S}{hr:List Internal.S}(hf:IsFn S f c)(hn:y.length=c.n)(hb:c.body=[.try_ [.ret e] (.g g) (some i) (h0::hr)])
  (hg:Glob S g (S.cv g)) (O:∀c V',X c V'->exmOne S.K (S.cv c) (S.cv g)=some true/\∃C,S.cv c=.ref C)
  (he:∀F:Fx S,F.k=k->ET F (Dv y) V e (λa Aa=>RetK S Q (.ret a) (Dv y) Aa) (XF F (Dv y) X))
  (hh:∀c V',X c V'->∀g' kk x hx,∀F':Fx (S.grow g' kk x hx),F'.k=k->SsT F' (Vars.set (Dv y) i (.exc c)) V' (h0::hr) (λfl As Ab=>RetK S Q fl As Ab) NoX):CallT S (k+1) (.ref f) y V Q noX:=by
 refine CallT.body0 hf hn λF hk ht Y y1 y2 ps hc s hs=>?_;rw[hb]at hc;refine X1pp hc.one λp ep hc1=>?_;clear hc;subst ep;refine X6pppppp hc1.inv λZ Z Z Z Z Z Z0 hcb hct hfree hv hch=>?_;clear hc1;subst Z0;refine X2pp hct.inv λZ Z Z1 hgx=>?_;subst Z1;refine X2ppp hch.inv λZ Z Z2 hc0 hcr=>?_;subst Z2;refine X1p ht.top λlt elt=>?_;have hbd:SsT F (Dv y) V [.ret e] (λfl m' V'=>∃a,fl=.ret a/\RetK S Q fl m' V') (XF F (Dv y) X):=SsT.cons (ST.ret ((he F hk).mono λa Aa q=>⟨a,rfl,q⟩));refine wpAny_execs_cons (wpAny_Try_except ?_);refine aJ (hbd _ hcb s hs) ?_ ?_
 .intro fl Ac hR1
  obtain⟨fl',m',V',_,h',z,a,rfl,d⟩:=hR1
  cases fl with|ret v=>exact⟨.ret a,m',V',h',z,d⟩|_=>exact z.elim
 intro ev Ac x;obtain⟨ea,c,V',Ak,base,C,hea,fly,U,up,rest,BY,hX,O,hC⟩:=x.fell elt O;subst hea;refine FY elt ht.frame fly λAh fly₂ JK=>?_;refine Ft fly₂ λAS He JJ=>?_;have L3:F.St (Dv y) V' { Ac with heap:=AS }:=St.land BY elt U He.stays ((up.trans JK).trans JJ) rest
 refine wpAny_handleBy_cons (codeAny_handlers_test ?_) (by intro q;cases q)
 refine Dj hgx hg L3 ?_;refine(exm_one (S.X.keeps L3.inv.keep) He.looks O).here ?_;show codeAny _ _ _ _ _;refine codeAny_handlers_suite_as (Ft He λBr Ll B=>?_);obtain⟨⟨g',kk,hx,b',room,stF,back⟩,rx⟩:=caught (s:={ Ac with heap:=Br }) elt BY (St.land BY elt U Ll.stays (((up.trans JK).trans JJ).trans B) rest) Ll U (((up.trans JK).trans JJ).trans B) hC
 refine BJ (F:=F.hand b' room) hfree hv stF rx λFM Z Fq=>?_;refine aJ (hh c V' hX g' kk ea hx (F.hand b' room) hk _ (.cons hc0 hcr) FM Fq) ?_ λZ Z x=>x.elim;intro fl s₆ hR1;obtain⟨fl',As,Ab,_,h₆,z,d⟩:=hR1;refine Kw (F:=F) hfree hv (back _ _ _ h₆) λs₇ st₇ T=>?_
 cases fl' with
 |next =>
  cases fl with
  |next=>exact f5 ⟨.next,_,Ab,T,trivial,d⟩
  |_=>exact z.elim
 |ret v =>
  cases fl with|ret u=>exact⟨.ret v,_,Ab,T,Rep.st (F:=F) z st₇ T,d⟩|_=>exact z.elim
theorem Good.grow{T:Heap}{k:∀b o,S.g.get? b=some o->T.get? b=some o}{x:Addr}{d:∃o vs,T.get? x=some o/\o.data=.fields vs/\vs[2]?=some bo}(G:Good S W):Good (S.grow T k x d) W:=by
 refine⟨λi hi=>⟨(G.glob i hi).at_⟩,G.bu,?_,G.base,G.six,⟨G.floor.cv,G.floor.get,G.floor.has,G.floor.setattr,G.floor.over,G.floor.make⟩,⟨G.texts.find,G.texts.take⟩,⟨G.cells.find,G.cells.take⟩,?_,G.exk,G.sub,G.meth⟩
 .intro i hi u y
  have:=G.own i hi u y
  exact λh kk=>this h λb o e=>kk b o (k b o e)
 .intro i h1 h2 hu
  refine X5pppp (G.exc i h1 h2 hu) λx C bm z U Y B O FB=>?_;exact⟨x,C,bm,z,U,Y,B,O.keeps k,FB⟩
theorem XR.no'{F:Fx S}{e:Value}{s':af}(h:XR F (Up BZ) e s'):False:=by
 obtain⟨T,c,V',Ak,m,O,z,⟨_,_,_,Y⟩,y⟩:=h;exact Y
def tryW(Φ Φh:Tab)(c:Ap)(e:E)(g i:Nat)(hs:List Internal.S)(rs:Rs)(nv ns:Nat)(avs:List AV)(V:LS)(K:KR):Prop :=
 avs.length=c.n/\(wp Φ e (λc τ=>(isXc Φ.ex c && xsub c g)=true/\wpSs Φh hs BZ (E9 (avs.map some++aP nv aa) i (.exc c)) τ (λfl Z τ'=>GN rs V.length (flV fl) τ' K))).v aa (avs.map some++aP nv aa) (V++aP ns .no) (λa τ=>GN rs V.length a τ K)
theorem Hz{Φ Φh:Tab}{k:Nat}{fa:Addr}{c:Ap}{e:E}{g i:Nat}{Y:Internal.S}{y:List Internal.S}{rs:Rs}{nv ns:Nat}{u:List AV}{V:LS}{K:KR}{Q:AV->Store->Prop}{X:XL}(T:TabOk S W k Φ)(Th:∀g' kk x hx,TabOk (S.grow g' kk x hx) W k Φh)(hf:IsFn S fa c)(hb:c.body=[.try_ [.ret e] (.g g) (some i) (Y::y)])(d:Φ.ex.contains g=true/\17<=g/\g<=27)
  (o:okS V) (h:tryW Φ Φh c e g i (Y::y) rs nv ns u V K) (ret:∀{fl:Fl}{m:Vars}{τ:LS}{s:Store},okS τ->Sub τ s->GN rs V.length (flV fl) τ K->RetK S Q fl m s):CallT S (k+1) (.ref fa) u (Au V) Q (Up X):=by
 refine CallT.mono (X:=noX) (CallT.try_ (X:=Up (λc τ=>(isXc Φ.ex c && xsub c g)=true/\wpSs Φh (Y::y) BZ (E9 (u.map some++aP nv aa) i (.exc c)) τ (λfl Z B=>GN rs V.length (flV fl) B K))) hf h.1 hb (T.good.glob g (T.ex g d.1)) (λc s z=>?_) (λF hk=>?_) λc s z g' kk x hx F' hk=>?_) (λZ Z z=>z) λZ Z z=>z.elim
 .obtain⟨τ,_,_,z,_⟩:=z
  refine Ao (aG.mp z) λO z2=>?_;unfold isXc at O;simp only[be,ij]at O;refine⟨(T.good.sub c g O.1.2 O.2 (T.ex c O.1.1) d.2.1 d.2.2 (T.ex g d.1)).1.trans (by rw[z2]),?_⟩
  refine X5ppp (T.good.exc c O.1.2 O.2 (T.ex c O.1.1)) λx C bm nid ini hix hcv Z=>?_;exact⟨C,hcv⟩
 .have:=(AJ T e _).v F (dH hk.symm) _ _ _ _ (C9 (n:=ns) o) h.2
  rw[Hw,E3,Cr]at this;exact this.mono λa s z=>by
   obtain⟨τ,hs,kt,z⟩:=z;exact ret (fl:=.ret a) kt hs z
 .obtain⟨τ,hs,kt,_,z⟩:=z
  have:=BV (Th g' kk x hx) (Y::y) BZ F' (dH hk.symm) NoX ⟨λe s q=>q.no' ,PassesOwn.never⟩ _ τ _ kt z
  rw[Eo,Hw,E3]at this;refine SsT.less hs (SsT.mono this λfl As Aj q=>?_);obtain⟨m1,B,em,hs',U,q⟩:=q;exact ret U hs' q
theorem Snd.try_{Φ Φh:Tab}{k:Nat}{fa:Addr}{c:Ap}{e:E}{g i:Nat}{O:Internal.S}{y:List Internal.S}{nv ns:Nat}{f:FS}(T:TabOk S W k Φ)(Th:∀g' kk x hx,TabOk (S.grow g' kk x hx) W k Φh)(U:IsFn S fa c)(B:c.body=[.try_ [.ret e] (.g g) (some i) (O::y)])(Y:Φ.ex.contains g=true/\17<=g/\g<=27)
  (h:∀u V K X,f.spec u V K X->∃rs,tryW Φ Φh c e g i (O::y) rs nv ns u V K) (hp:∀u,f.pure u=aa):Snd S (k+1) (.ref fa) f :=
 Snd.of (λu V K X o q=>by
  refine X1p (h u V K X q) λrs w=>?_;exact⟨Hz T Th U B Y o w λok hs z=>CD ok hs z,λi=>Hz T Th U B Y o w λok hs z=>HJ ok hs z⟩) λu v d=>by rw[hp]at d;exact nS d
end
section
section
variable {S:Sta}
noncomputable def fnD(K:Frag)(a:Addr):Option FuncData:=match K.lookup a with
 |some ⟨_,_,.func fd,_⟩=>some fd
 |_=>aa
noncomputable def bodyD(fd:FuncData):Option (List Stmt):=match fd.body with
 |.stmts b=>some b
 |_=>aa
noncomputable def nmOk(tb:List Nat)(sc:Nms)(names:List Str):Bool:=(bp names.length).all λj=>match names[j]? with
 |some x=>ixS tb x == some j && (sc.lookup x == some .local || sc.lookup x == some .cell)
 |aa=>true
noncomputable def fnOk(K:Frag)(c:Ap)(names:List Str)(fd:FuncData):Bool :=
 decide (fd.globals=bZ) && (decide (fd.builtins=builtinsNs) && (fd.scope.kind == .function && (!fd.scope.isCoroutine && (!fd.scope.isGenerator && (codeIn K fd.code fd.qualname && (names.length == c.n && (nmOk c.tb fd.scope.names names && decide ((c5 0 fd.scope.names []).map (·.1)).Nodup)))))))
set_option tactic.hygienic true in
theorem IsFn.of{K:Frag}{a:Addr}{c:Ap}(names:List Str)(hK:S.K=K)(Y:(fnD K a).map (λfd=>(fnOk K c names fd,fd.closure))=some (true,[]))
  (z:(fnD K a).map (λfd=>(bodyD fd).map λb=>(cSs c.tb 60 fd.scope.names b).map (·.1))=some (some (some (GI c.body)))) (y:∀vals:List Value,vals.length=c.n->(fnD K a).map (λfd=>bindArgs fd ⟨vals,[]⟩)=some (pure (names.zip vals))):IsFn S a c:=by
 subst hK;unfold fnD at Y z y
 split at Y
 .rename_i cl d fd sl B
  simp only[B]at z y;simp only[dD,ew,et]at Y z y;refine Ao Y λY U=>?_;unfold fnOk at Y;simp only[be,decide_eq_true_eq,beq_iff_eq,Bool.not_eq_true']at Y;refine Gz Y λg1 g2 g3 g4 g5 g6 Z0=>?_;refine Bl Z0 λg7 O g9=>?_
  cases hb:bodyD fd with
  |none=>rw[hb]at z;exact nS z
  |some b =>
   rw[hb]at z;simp only[dD,ew]at z;have u:fd.body=.stmts b:=by
    unfold bodyD at hb
    split at hb
    .rename_i b' e;obtain rfl:=ae hb;exact e
    .exact nS hb
   refine⟨_,fd,b,names,S.X _ _ B,rfl,u,U,g1,g2,g3,g4,g5,codeRec_of S.X g6,g7,y,λj x T=>?_,g9,LR z⟩;unfold nmOk at O;have hj:j<names.length:=(eK.mp T).1
   have:=bU.mp O j (fp.mpr hj)
   rw[T]at this;simp only[be,beq_iff_eq,eh]at this;exact⟨this.1,this.2⟩
 .exact nS Y
end
noncomputable def goT(nx:SharedT->Thread->Option (SharedT×Thread))(ok:Thread->Bool):Nat->SharedT->Thread->Option SharedT
 |0,_,_=>aa
 |n+1,s,t=>match through t with
  |true=>some s
  |false=>match ok t with
   |false=>aa
   |true=>match nx s t with
    |some (s',t')=>goT nx ok n s' t'
    |aa=>aa
theorem H9{tb:String->Option eT}{p:dz}{w:World}{T:Nat}{y:Option Value}:∀(n:Nat)(s r:SharedT)(t:Thread),goT (stepT (denote tb) p w) (stepOk T y) n s t=some r->topRun tb p w T y n s.abs t=some r.abs
 |0,_,_,_,h=>by exact nS h
 |n+1,s,r,t,h=>by
  unfold goT at h;unfold topRun
  cases ht:through t with
  |true=>rw[ht]at h;obtain rfl:=ae h;rfl
  |false =>
   rw[ht]at h
   cases hk:stepOk T y t with
   |false=>rw[hk]at h;exact nS h
   |true =>
    rw[hk]at h
    cases hs:stepT (denote tb) p w s t with
    |none=>rw[hs]at h;exact nS h
    |some x =>
     obtain⟨s',d⟩:=x;rw[hs]at h;rw[stepT_spec hs];exact H9 n s' r d h
noncomputable def treeOf:List Obj->Nat->PySem.W.BT->PySem.W.BT
 |[],_,t=>t
 |o::l,n,t=>treeOf l (n+1) (t.ins n o)
noncomputable def JA(P:Params):PySem.W.BT:=treeOf (c6 P).objs.toList 0 .nil
noncomputable def seenT{α:Type}(H₀:Heap)(p q:dz)(Xt:af->Bool)(Yf:af->α)(s:af) :=
 ((staticsOk (ge p.main.body) H₀ s.heap && namesBound p s.heap && gensDone s && laidKept H₀ s.heap),openSeen q [] (ge p.main.body) Xt true s,Yf s)
theorem left_of{p q:dz}{Xt:af->Bool}{α:Type}{U:af->α}{u:World->α}{N:Nat}{T:Nat}{O:Life}{y:Option Value}(e:opening p=plainProg p.main.scope.names)(hN:fq 600 N=true)(f:∀s,fenceModules? p s=some s)
  (hT:∀P,absHeap (JA P) T O=c6 P) (size:∀P,((c6 P).isNs bZ,(c6 P).objs.size,(c6 P).nsMap bZ "__annotations__")=(true,T,y))
  (run:∀w:World,(λos=>(goT (stepT (denote treeTable) p w) (stepOk T y) N ⟨JA w.params,T,O,ip [],gz,hV,os⟩ (topStub p)).map λr=>seenT (c6 w.params) p q Xt U r.abs)=λZ=>some (true,openGood q [],u w)) :
  LeftO p q [] Xt U u N true:=λw=>by
 obtain⟨⟨h,gs,d,k,os⟩,e1,Y⟩:=aU.mp (boot_open e hN f w);simp only[et]at Y;refine B5 Y λZ0 Z1 Z2 Z3=>?_;clear Y;subst Z0;subst Z1;subst Z2;subst Z3;have z:=size w.params;simp only[et]at z;refine X1pp (aU.mp (congrFun (run w) os)) λr g l=>?_;unfold seenT at l;simp only[et]at l;have B:=H9 _ _ _ _ g;have ea:SharedT.abs ⟨JA w.params,T,O,ip [],gz,hV,os⟩=⟨c6 w.params,ip [],gz,hV,os⟩:=by
  show Shared.mk _ _ _ _ _=_;rw[hT]
 rw[ea]at B;have t:topFrom treeTable p w N ⟨c6 w.params,ip [],gz,hV,os⟩=some r.abs:=by
  unfold topFrom;dsimp only;rw[z.1,z.2.1,z.2.2,B];show (match _ && _ && _ && _ with|true=>_|false=>_)=_
  rw[l.1]
 unfold openEnds;rw[e1];show (topFrom treeTable p w N _).map _=_;rw[t];exact congrArg some (bY l.2.1 l.2.2)
noncomputable def DX(h:Heap):Frag:=(bp h.objs.size).filterMap λa=>(h.get? a).map λo=>(a,o)
set_option tactic.hygienic true in
theorem Jj{K:Frag}{a:Addr}{o:Obj}(h:K.lookup a=some o):(a,o)∈K:=by
 induction K with
 |nil=>exact nS h
 |cons x K y =>
  obtain⟨b,u⟩:=x;rw[cU]at h
  split at h
  .rename_i e;obtain rfl:=ae h;rw[eq_of_beq e];exact .head _
  .exact .tail _ (y h)
theorem Lk(h:Heap):(DX h).In h:=λa o e=>by
 refine X1pp (d7.mp (Jj e)) λb Z z=>?_;refine X1pp (aU.mp z) λu Y y=>?_;obtain⟨rfl,rfl⟩:=cP y;exact Y
noncomputable def adr:Value->Addr
 |.ref a=>a
 |_=>0
noncomputable def ownV(K:Frag)(x:Str):Value:=match nsIn K bZ x with
 |some (some v)=>v
 |_=>.none
structure Ent where
 a:Addr
 c:Ap
 nms:List Str
noncomputable def IH(K:Frag)(x:Ent):=(fnD K x.a).map λfd=>(bodyD fd).map λb=>(cSs x.c.tb 60 fd.scope.names b).map (·.1)
noncomputable def Gw(K:Frag)(x:Ent)(v u t s:Value):=(fnD K x.a).map λfd=>bindArgs fd ⟨[v,u,t,s].take x.c.n,[]⟩
noncomputable def Ee(x:Ent)(v u t s:Value):Option (Sem (List (Str×Value))):=some (pure (x.nms.zip ([v,u,t,s].take x.c.n)))
noncomputable def entOk(K:Frag)(x:Ent):Bool:=decide (x.c.n<=4) && (fnD K x.a).any λfd=>fnOk K x.c x.nms fd && fd.closure.isEmpty
theorem IsFn.ent{S:Sta}{x:Ent}(Y:entOk S.K x=true)(d:IH S.K x=some (some (some (GI x.c.body))))(y:Gw S.K x=Ee x):IsFn S x.a x.c:=by
 refine Ao (aG.mp Y) λO Y=>?_;obtain⟨fd,h4,T⟩:∃fd,fnD S.K x.a=some fd/\(fnOk S.K x.c x.nms fd && fd.closure.isEmpty)=true:=by
  cases e:fnD S.K x.a with|none=>rw[e]at Y;exact nF Y|some fd=>rw[e]at Y;exact⟨fd,rfl,Y⟩
 refine Ao (aG.mp T) λT B=>?_;refine IsFn.of x.nms rfl (by rw[h4,dD,T,List.isEmpty_iff.mp B]) d λU z=>?_
 have O:=of_decide_eq_true O;have key:∀v u t s,[v,u,t,s].take x.c.n=U->(fnD S.K x.a).map (λfd=>bindArgs fd ⟨U,[]⟩)=some (pure (x.nms.zip U)):=λv u t s e=>by
  have:=congrFun (congrFun (congrFun (congrFun y v) u) t) s
  unfold Gw Ee at this;rw[e]at this;exact this
 rw[<- z]at key O
 match U,O with
 |[],_=>exact key .none .none .none .none rfl
 |[v],_=>exact key v .none .none .none rfl
 |[v,u],_=>exact key v u .none .none rfl
 |[v,u,t],_=>exact key v u t .none rfl
 |[v,u,t,s],_=>exact key v u t s rfl
 |_::_::_::_::_::_,h=>simp at h
end
section
noncomputable def nbL:List (Nat×Str):=[(0, "len"),(1, "isinstance"),(2, "int"),(3, "bool"),(4, "tuple"),(5, "list"),(6, "str"),(7, "dict"),(8, "range"),(9, "enumerate"),(10, "sorted"),(11, "sum"),(12, "abs"),(13, "min"),(14, "max"),(15, "all"),(16, "any"),(17, "ValueError")]
noncomputable def neL:List (Nat×Str):=[(18, "FloorError"),(19, "BadFloor"),(20, "Parted"),(21, "Holed"),(22, "NoCell"),(23, "BadLaying"),(24, "NoLaying"),(25, "NoHeights"),(26, "NoTurn"),(27, "BadText")]
structure LawD where
 nf:List (Nat×Str)
 ms:List (Nat×Str)
 es:List (Bool×Str×Ap×List Str)
 ne:List (Nat×Str)
noncomputable def LawD.no(D:LawD):List (Nat×Str):=D.ne++D.nf
section
variable (D:LawD)
noncomputable def cvK(K:Frag)(i:Nat):Value:=if i<17 then bv i else if i=17 then .type "ValueError" else match D.no.lookup i with
 |some x=>ownV K x
 |aa=>ownV K "MOST_LONG"
noncomputable def clsK(K:Frag):Addr:=adr (ownV K "Floor")
noncomputable def G0(K:Frag)(x:Str):Addr:=match eE K (.ref (clsK K)) x with
 |some (some v)=>adr v
 |_=>0
noncomputable def WK(K:Frag):Wd where
 U:=λi=>fq i 17 || (D.no.lookup i).isSome || i == 28
 C:=clsK K
 M:=λn=>(D.ms.lookup n).map (G0 K)
noncomputable def entOf(K:Frag)(e:Bool×Str×Ap×List Str):Ent:=⟨(match e.1 with
 |true=>G0 K e.2.1
 |false=>adr (ownV K e.2.1)),e.2.2.1,e.2.2.2⟩
noncomputable def Fv(K:Frag):List Ent:=D.es.map (entOf K)
noncomputable def refK(K:Frag)(x:Str):Bool:=decide (nsIn K bZ x=some (some (.ref (adr (ownV K x)))))
noncomputable def excB(K:Frag)(C:Addr):Bool:=decide (eE K (.ref C) "__getattribute__"=some (some (.builtin "BaseException.__getattribute__"))) && (decide (eE K (.ref C) "__getattr__"=some aa) && ((clsIn K C).isSome && (decide (eE K (.ref C) "__class__"=some (some (.builtin "object.__class__"))) &&
 (decide (specialIn K (.builtin "object.__class__") "__get__"=some (some (.builtin "getset_descriptor.__get__"))) && (decide (takesIn K (.builtin "object.__class__")=some true) && (decide (mroIn K C (.type "object")=some true) && decide (subIn K (.ref C) (.type "BaseException")=some true)))))))
noncomputable def vBases:List Value:=[.type "ValueError",.type "Exception",.type "BaseException",.type "object"]
noncomputable def floorB(K:Frag)(C:Addr):Bool:=plainGet K C "texts" && (hasDictIn K C && (decide (eE K (.ref C) "__setattr__"=some (some (.builtin "object.__setattr__"))) && (plainOver K C && makesIn K C)))
noncomputable def EH(K:Frag)(C:Addr)(x:Str):Bool:=decide (eE K (.ref C) x=some aa) && decide (takerIn K C x=some aa)
noncomputable def G1(K:Frag)(x:Str):Bool:=decide (eE K (.ref (clsK K)) x=some (some (.ref (G0 K x)))) && (isFn K (.ref (G0 K x)) && keepIn K (.ref (G0 K x)))
noncomputable def sixB(v:Value):Bool:=match v with
 |.int 6 _=>true
 |_=>false
structure E2(K:Frag):Prop where
 blt:∀p∈nbL,nsIn K bZ p.2=some aa
 own:∀p∈D.no,nsIn K bZ p.2=some (some (.ref (adr (ownV K p.2))))/\keepIn K (.ref (adr (ownV K p.2)))=true
 law:nsIn K bZ "law"=some (some (.ref (adr (ownV K "law"))))
 six:nsIn K bZ "MOST_LONG"=some (some (ownV K "MOST_LONG"))/\sixB (ownV K "MOST_LONG")=true
 exc:∀p∈D.ne,excIn K (adr (ownV K p.2)) vBases "ValueError.__new__"=true/\excB K (adr (ownV K p.2))=true
 sub:∀c∈D.ne.map (·.1),∀j∈17::D.ne.map (·.1),exmOne K (cvK D K c) (cvK D K j)=some (xsub c j)/\kitOne K (cvK D K c) (cvK D K j)=some (xsub c j)
 floor:floorB K (clsK K)=true
 texts:EH K (clsK K) "texts"=true
 cells:EH K (clsK K) "own"=true
 init:G1 K "__init__"=true
 meth:∀p∈D.ms,G1 K p.2=true
 ent:∀x∈Fv D K,entOk K x=true
noncomputable def HO(K:Frag):List Bool:=[nbL.all λp=>decide (nsIn K bZ p.2=some aa),D.no.all λp=>refK K p.2 && keepIn K (.ref (adr (ownV K p.2))),refK K "law",decide (nsIn K bZ "MOST_LONG"=some (some (ownV K "MOST_LONG"))),sixB (ownV K "MOST_LONG"),
 D.ne.all λp=>excIn K (adr (ownV K p.2)) vBases "ValueError.__new__" && excB K (adr (ownV K p.2)),(D.ne.map (·.1)).all λc=>(17::D.ne.map (·.1)).all λj=>decide (exmOne K (cvK D K c) (cvK D K j)=some (xsub c j)) && decide (kitOne K (cvK D K c) (cvK D K j)=some (xsub c j)),
 floorB K (clsK K),EH K (clsK K) "texts",EH K (clsK K) "own",G1 K "__init__",D.ms.all λp=>G1 K p.2,(Fv D K).all (entOk K)]
variable {D}
theorem KF{K:Frag}(h:HO D K=aP 13 true):E2 D K:=by
 unfold HO at h;simp only[aP,List.cons.injEq,and_true,bU,be,decide_eq_true_eq,refK]at h;obtain⟨h1,h2,h3,h4,U,O,y,d,u,B,Y,z,T⟩:=h;exact⟨h1,h2,h3,⟨h4,U⟩,O,y,d,u,B,Y,z,T⟩
variable (D)
noncomputable def obsK(K:Frag):=(HO D K,(Fv D K).map (IH K),(Fv D K).map (Gw K))
noncomputable def valK:List Bool×List (Option (Option (Option (List Internal.S))))×List (Value->Value->Value->Value->Option (Sem (List (Str×Value)))):=(aP 13 true,(Fv D []).map λx=>some (some (some (GI x.c.body))),(Fv D []).map Ee)
structure Em(K:Frag):Prop where
 L:E2 D K
 body:∀x∈Fv D K,IH K x=some (some (some (GI x.c.body)))
 bind:∀x∈Fv D K,Gw K x=Ee x
variable {D}
theorem start_of{K:Frag}(h:obsK D K=valK D):Em D K:=by
 have u:(Fv D []).map (λx=>some (some (some (GI x.c.body))))=(Fv D K).map λx=>some (some (some (GI x.c.body))):=by
  unfold Fv;rw[aY,aY];rfl
 have T:(Fv D []).map Ee=(Fv D K).map Ee:=by
  unfold Fv;rw[aY,aY];rfl
 unfold obsK valK at h;rw[u,T]at h;simp only[et]at h;exact⟨KF h.1,List.map_inj_left.mp h.2.1,List.map_inj_left.mp h.2.2⟩
noncomputable def F6(D:LawD):Hook:=⟨_,λs=>obsK D (DX s.heap),λZ=>valK D,λZ h=>∃K:Frag,K.In h/\Em D K,λZ s e=>⟨_,Lk _,start_of e⟩,λ_ _ _ ⟨K,X,s⟩ k=>⟨K,X.keeps k,s⟩⟩
structure LawD.Ok(D:LawD):Prop where
 ix:∀p∈D.nf,ixS GT p.2=some p.1
 hi:∀p∈D.nf,29<=p.1
 ne:∀p∈D.ne,p∈neL
 floor:D.no.lookup 29=some "Floor"
 mix:∀p∈D.ms,ixS AT p.2=some p.1/\p.2 ≠ "texts"/\p.2 ≠ "own"
section
variable {S:Sta}
theorem Glob.own{nm:Str}{i:Nat}{v:Value}(hi:ixS GT nm=some i)(h:nsIn S.K bZ nm=some (some v)):Internal.Glob S i v:=⟨λx u=>.inl (by rw[BN u hi];exact mg_of S.X S.ng h)⟩
theorem Glob.built{nm:Str}{i:Nat}{v:Value}(hi:ixS GT nm=some i)(h:nsIn S.K bZ nm=some aa)(z:S.mb nm=some v):Internal.Glob S i v:=⟨λx u=>.inr (by rw[BN u hi];exact⟨mg_none_of S.X S.ng h,z⟩)⟩
theorem Fi:∀p∈nbL++neL++[(28,b6 "MOST_LONG")],ixS GT p.2=some p.1:=by decide +kernel
theorem Kv:∀p∈nbL,bootBuiltins p.2=some (cvK ⟨[],[],[],[]⟩ [] p.1)/\p.2 ≠ "__name__":=by decide +kernel
set_option tactic.hygienic true in
theorem Be{l:List (Nat×Str)}{i:Nat}{x:Str}(h:l.lookup i=some x):(i,x)∈l:=by
 induction l with
 |nil=>exact nS h
 |cons y l u =>
  obtain⟨b,O⟩:=y;rw[cU]at h
  split at h
  .rename_i e;obtain rfl:=ae h;rw[eq_of_beq e];exact .head _
  .exact .tail _ (u h)
theorem no_hi(O:D.Ok):∀p∈D.no,¬p.1<17/\¬p.1=17:=λp u=>by
 rcases aZ.mp u with h|h
 .have:∀p∈neL,¬p.1<17/\¬p.1=17:=by decide +kernel
  exact this p (O.ne p h)
 .have:=O.hi p h;exact⟨lin [p.fst] [] (.j V0 K17) [.b K29 V0] rfl this,λz=>lin [p.fst] [] .no [.b K29 V0,.d V0 K17] rfl this z⟩
theorem no_ix(O:D.Ok):∀p∈D.no,ixS GT p.2=some p.1:=λp d=>by
 rcases aZ.mp d with h|h
 .exact Fi p (ba _ (bx _ (O.ne p h)))
 .exact O.ix p h
theorem Hp(O:D.Ok){K:Frag}{i:Nat}{x:Str}(h:D.no.lookup i=some x):cvK D K i=ownV K x:=by
 refine Ao (no_hi O _ (Be h)) λY z=>?_;unfold cvK;rw[if_neg Y,if_neg z,h]
theorem cvK_blt{K:Frag}{i:Nat}(h:i<=17):cvK D K i=cvK ⟨[],[],[],[]⟩ [] i:=by
 unfold cvK
 by_cases Y:i<17
 .rw[if_pos Y,if_pos Y]
 .have:i=17:=ar h (Nat.le_of_not_lt Y)
  rw[if_neg Y,if_neg Y,if_pos this,if_pos this]
theorem usD{K:Frag}{i:Nat}(h:(WK D K).U i=true):i<=17\/(∃x,D.no.lookup i=some x)\/i=28:=by
 simp only[WK,eh,beq_iff_eq,bF]at h
 rcases h with(h|h)|h
 .exact .inl (bf h)
 .exact .inr (.inl h)
 .exact .inr (.inr h)
theorem blt_at:∀i,i<=17->∃x,(i,x)∈nbL:=λi hi=>by
 have:∀i,i<18->(nbL.lookup i).isSome=true:=by decide +kernel
 refine X1p (bF.mp (this i (Nat.lt_succ_of_le hi))) λx u=>?_;exact⟨x,Be u⟩
theorem Ik(O:D.Ok){K:Frag}(i:Nat)(B:18<=i)(z:i<=27)(h:(WK D K).U i=true):∃x,(i,x)∈D.ne/\D.no.lookup i=some x:=by
 rcases usD h with h|⟨x,h⟩|rfl
 .exact absurd (aw B h) (by decide)
 .refine⟨x,(aZ.mp (Be h)).resolve_right λq=>?_,h⟩
  have Y:29<=i:=O.hi _ q;exact absurd (aw Y z) (by decide)
 .exact absurd z (by decide)
theorem own_in{p:Nat×Str}(h:p∈D.ne):p∈D.no:=ba _ h
theorem cv28(O:D.Ok){K:Frag}:cvK D K 28=ownV K "MOST_LONG":=by
 have:D.no.lookup 28=aa:=by
  cases h:D.no.lookup 28 with
  |none=>rfl
  |some x =>
   rcases aZ.mp (Be h)with q|q
   .have:∀p∈neL,p.1≠28:=by decide +kernel
    exact absurd rfl (this _ (O.ne _ q))
   .have z:29<=28:=O.hi _ q
    exact absurd z (by decide)
 unfold cvK;rw[if_neg (by decide),if_neg (by decide),this]
theorem ExcK.of{K:Frag}{C:Addr}(h:excB K C=true):ExcK K C:=by
 simp only[excB,be,decide_eq_true_eq]at h;refine Gz h λB z U y T O u=>?_;refine Ao u λY d=>?_;exact⟨B,z,U,y,T,O,Y,d⟩
theorem Field.of{C:Addr}{x:Str}(h:EH S.K C x=true):Field S C x:=by
 simp only[EH,be,decide_eq_true_eq]at h;exact⟨h.1,h.2⟩
theorem Kn{K:Frag}{x:Str}{v:Value}(h:nsIn K bZ x=some (some v)):ownV K x=v:=by unfold ownV;rw[h]
theorem globD(O:D.Ok)(L:E2 D S.K)(Y:∀x:Str,x ≠ "__name__"->S.mb x=bootBuiltins x){i:Nat}(h:(WK D S.K).U i=true):Internal.Glob S i (cvK D S.K i):=by
 rcases usD h with h|⟨x,h⟩|rfl
 .obtain⟨x,u⟩:=blt_at i h
  have z:=Kv _ u;exact Glob.built (Fi (i,x) (ba _ (ba _ u))) (L.blt _ u) (by rw[Y x z.2,z.1,cvK_blt (K:=S.K) h])
 .have u:=Be h
  rw[Hp O h]
  have:=(L.own _ u).1
  exact Glob.own (no_ix O (i,x) u) (this.trans (congrArg (λv=>some (some v)) (Kn this).symm))
 .rw[cv28 O]
  exact Glob.own (Fi (28,_) (bx _ (.head _))) L.six.1
theorem ownD(O:D.Ok)(L:E2 D S.K){i:Nat}(h:(WK D S.K).U i=true)(y:i≠28)(u:17<=i):Callable S (cvK D S.K i):=by
 rcases usD h with h|⟨x,h⟩|rfl
 .have:i=17:=ar h u
  clear h y u;subst this;exact Callable.type _
 .rw[Hp O h]
  have:=L.own _ (Be h)
  refine Callable.own ?_;unfold ownV;rw[this.1];exact this.2
 .exact absurd rfl y
theorem refD(O:D.Ok){K:Frag}(L:E2 D K){i:Nat}{x:Str}(h:D.no.lookup i=some x):cvK D K i=.ref (adr (ownV K x)):=by
 rw[Hp O h];exact Kn (L.own _ (Be h)).1
set_option tactic.hygienic true in
theorem goodD{p:dz}{loose:List Str}(O:D.Ok)(L:E2 D S.K)(B:S.cv=cvK D S.K)(T:TopRead p loose S.mg S.mb S.g):Good S (WK D S.K) where
 glob:=λi hi=>by rw[B];exact globD O L T.builtins hi
 bu:=λi hi=>by
  show (_ || _ || _)=true;rw[Nat.ble_eq_true_of_le (dE hi)];rfl
 own:=λi hi h17 h28=>by rw[B];exact ownD O L hi h28 h17
 base:=λi hi=>by rw[B];exact if_pos hi
 six:=by
  rw[B,cv28 O]
  have:=L.six.2
  revert this
  cases ownV S.K "MOST_LONG" with
  |int n t =>
   intro h;unfold sixB at h
   split at h
   .rename_i u e;exact⟨u,e⟩
   .exact nF h
  |_=>intro h;exact nF h
 floor:=by
  have h:=L.floor;simp only[floorB,be,decide_eq_true_eq]at h;obtain⟨U,z,h3,h4,h5⟩:=h;exact⟨by rw[B];exact refD O L (i:=29) (x := "Floor") O.floor,U,z,h3,h4,h5⟩
 texts:=Field.of L.texts
 cells:=Field.of L.cells
 exc:=λi U z hu=>by
  refine X1pp (Ik O i U z hu) λx Y hl=>?_;rw[B];exact⟨x,adr (ownV S.K x),_,_,_,no_ix O (i,x) (own_in Y),refD O L hl,own_of_in S.X T (L.own _ (own_in Y)).1 (L.exc _ Y).1,PySem.F.excBase_ValueError⟩
 exk:=λi C U z hu hC=>by
  refine X1pp (Ik O i U z hu) λx Y hl=>?_;rw[B,refD O L hl]at hC;obtain rfl:=bG hC;exact ExcK.of (L.exc _ Y).2
 sub:=λc j U z hc h3 h4 hj=>by
  rw[B];refine X1pp (Ik O c U z hc) λx Y Z=>?_;refine L.sub c (aW.mpr ⟨_,Y,rfl⟩) j ?_
  rcases Nat.eq_or_lt_of_le h3 with e|e
  .rw[<- e];exact .head _
  .refine X1pp (Ik O j e h4 hj) λy hy Z=>?_
   exact .tail _ (aW.mpr ⟨_,hy,rfl⟩)
 meth:=λn f hn=>by
  have key:∀x:Str,ixS AT x=some n->x ≠ "texts"->x ≠ "own"->G1 S.K x=true->G0 S.K x=f->∃nm,ixS AT nm=some n/\nm ≠ "texts"/\nm ≠ "own"/\eE S.K (.ref (WK D S.K).C) nm=some (some (.ref f))/\isFn S.K (.ref f)=true/\keepIn S.K (.ref f)=true:=by
   rintro x a b c d rfl
   simp only[G1,be,decide_eq_true_eq]at d;exact⟨x,a,b,c,d⟩
  refine X1pp (aU.mp hn) λx Y e=>?_;have Y:=Be Y;refine Bl (O.mix _ Y) λa b c=>?_;exact key x a b c (L.meth _ Y) e
theorem Jn(st:Em D S.K){e:Bool×Str×Ap×List Str}(O:e∈D.es):IsFn S (entOf S.K e).a e.2.2.1:=by
 have u:entOf S.K e∈Fv D S.K:=de O;exact IsFn.ent (st.L.ent _ u) (st.body _ u) (st.bind _ u)
end
end
end
section
section
variable {S:Sta}{W:Wd}{k k':Nat}
theorem JR{α:Type}{j i:Nat}{y x:α}{r:List (Nat×α)}(h:GE ((j,y)::r) i=some x):(i=j/\x=y)\/GE r i=some x:=by
 have h:(match bV i j with
  |true=>some y
  |false=>GE r i)=some x:=h
 cases q:bV i j with
 |false=>rw[q]at h;exact .inr h
 |true=>rw[q]at h;obtain rfl:=ae h;exact .inl ⟨bt q,rfl⟩
abbrev FnS(S:Sta)(W:Wd)(k i:Nat)(f:FS):Prop:=(W.U i=true/\i≠28)/\Snd S k (S.cv i) f
abbrev MeS(S:Sta)(W:Wd)(k n:Nat)(f:FS):Prop:=∃fa,W.M n=some fa/\Snd S k (.ref fa) f
abbrev KyS(S:Sta)(W:Wd)(k i:Nat)(f:AV->Option Ag):Prop:=W.U i=true/\∃fa kf,S.cv i=.ref fa/\kf+2<=k/\∀x,(f x).isSome=true->KeyT S kf (.ref fa) (Du f) [x]
theorem Snd.up{B:Value}{f:FS}(h:Snd S k B f)(le:k<=k'):Snd S k' B f:=λF z=>h F (aw le z)
theorem FnS.up{i:Nat}{f:FS}(h:FnS S W k i f)(le:k<=k'):FnS S W k' i f:=⟨h.1,h.2.up le⟩
theorem MeS.up{i:Nat}{f:FS}(h:MeS S W k i f)(le:k<=k'):MeS S W k' i f:=by
 refine X1pp h λU Y z=>?_;exact⟨U,Y,z.up le⟩
theorem KyS.up{i:Nat}{f:AV->Option Ag}(h:KyS S W k i f)(le:k<=k'):KyS S W k' i f:=by
 refine Ao h λT u=>?_;refine X2ppp u λU y z Y O=>?_;exact⟨T,U,y,z,aw Y le,O⟩
def AllP{α:Type}(P:Nat->α->Prop):List (Nat×α)->Prop
 |[]=>True
 |p::r=>P p.1 p.2/\AllP P r
theorem AllP.at{α:Type}{P:Nat->α->Prop}:∀{l:List (Nat×α)},AllP P l->∀{i:Nat}{x:α},GE l i=some x->P i x
 |[],_,_,_,h=>by exact nS h
 |(j,y)::r,a,i,x,h=>by
  rcases JR h with⟨rfl,rfl⟩|h
  .exact a.1
  .exact a.2.at h
theorem TabOk.of{q:Bool}{ex:List Nat}{fn me:List (Nat×FS)}{ky:List (Nat×(AV->Option Ag))}(G:Good S W)(hq:q=true->S.hx=aa)(hx:ex.all W.U=true)(T:AllP (FnS S W k) fn)(O:AllP (MeS S W k) me)(B:AllP (KyS S W k) ky):TabOk S W k ⟨q,ex,fn,me,ky⟩ :=
 ⟨G,hq,λi hi=>bU.mp hx i (fG.mp hi),λi f h=>T.at h,λi f h=>O.at h,λi f h=>B.at h⟩
end
section
variable {S:Sta}{D:LawD}{k:Nat}{Φ:Tab}{c:Ap}{rs:Rs}{nv ns:Nat}{f:FS}
theorem no_28(O:D.Ok){i:Nat}{x:Str}(h:D.no.lookup i=some x):i≠28:=by
 rintro rfl
 rcases aZ.mp (Be h)with q|q
 .have:∀p∈neL,p.1≠28:=by decide +kernel
  exact absurd rfl (this _ (O.ne _ q))
 .have z:29<=28:=O.hi _ q
  exact absurd z (by decide)
theorem U_of{K:Frag}{i:Nat}{x:Str}(h:D.no.lookup i=some x):(WK D K).U i=true:=by
 show (fq i 17 || (D.no.lookup i).isSome || i == 28)=true;rw[h];simp
theorem FnS.of(O:D.Ok)(st:Em D S.K)(B:S.cv=cvK D S.K){i:Nat}{nm:Str}{ps:List Str}(d:(false,nm,c,ps)∈D.es)(U:D.no.lookup i=some nm)(h:FnOk Φ c rs nv ns f)(T:TabOk S (WK D S.K) k Φ):FnS S (WK D S.K) (k+1) i f :=
 ⟨⟨U_of U,no_28 O U⟩,by rw[B,refD O st.L U];exact Snd.fn T (Jn st d) h⟩
theorem KyS.of(O:D.Ok)(st:Em D S.K)(B:S.cv=cvK D S.K){i:Nat}{nm:Str}{ps:List Str}{ky:AV->Option Ag}(d:(false,nm,c,ps)∈D.es)(U:D.no.lookup i=some nm)(h:FnOk Φ c rs nv ns f)(e:∀x p,ky x=some p->f.pure [x]=some (sp p))(T:TabOk S (WK D S.K) k Φ):KyS S (WK D S.K) (k+3) i ky :=
 ⟨U_of U,_,k+1,by rw[B,refD O st.L U];rfl,ay _,KeyT.fn T (Jn st d) h e⟩
theorem MeS.of(st:Em D S.K){n:Nat}{nm:Str}{ps:List Str}(O:(true,nm,c,ps)∈D.es)(U:D.ms.lookup n=some nm)(h:FnOk Φ c rs nv ns f)(T:TabOk S (WK D S.K) k Φ):MeS S (WK D S.K) (k+1) n f :=
 ⟨G0 S.K nm,by show (D.ms.lookup n).map _=_;rw[U];rfl,Snd.fn T (Jn st O) h⟩
theorem FnS.make(O:D.Ok)(st:Em D S.K)(B:S.cv=cvK D S.K){ps:List Str}(z:(true,b6 "__init__",c,ps)∈D.es)(d:∀avs,f.pure avs=aa)(u:f.whole=false)
  (h:∀avs V K X,f.spec (A1 avs 0) V K X->makeW Φ c nv ns (A1 avs 3) V K X) (T:TabOk S (WK D S.K) k Φ):FnS S (WK D S.K) (k+2) 29 f:=by
 have hi:=st.L.init;simp only[G1,be,decide_eq_true_eq]at hi;refine⟨⟨U_of O.floor,by decide⟩,?_⟩
 rw[B,refD O st.L O.floor];exact Snd.make T hi.1 hi.2.1 (Jn st z) d u h
theorem FnS.try_(O:D.Ok)(st:Em D S.K)(B:S.cv=cvK D S.K){i:Nat}{nm:Str}{ps:List Str}{Φh:Tab}{e:E}{g j:Nat}{Y:Internal.S}{y:List Internal.S}(u:(false,nm,c,ps)∈D.es)(U:D.no.lookup i=some nm)(h:∀avs V K X,f.spec avs V K X->∃rs,tryW Φ Φh c e g j (Y::y) rs nv ns avs V K)(hb:c.body=[.try_ [.ret e] (.g g) (some j) (Y::y)])
  (T:TabOk S (WK D S.K) k Φ) (Th:∀g' kk x hx,TabOk (S.grow g' kk x hx) (WK D S.K) k Φh) (z:Φ.ex.contains g=true/\17<=g/\g<=27) (d:∀avs,f.pure avs=aa):FnS S (WK D S.K) (k+1) i f :=
 ⟨⟨U_of U,no_28 O U⟩,by rw[B,refD O st.L U];exact Snd.try_ T Th (Jn st u) hb z h d⟩
end
end
section
abbrev Sp:=Int×Int
noncomputable def A4(k:Sp):List Sp:=[(k.1,k.2 - 1),(k.1 - 1,k.2),(k.1+1,k.2),(k.1,k.2+1)]
inductive Reach(P:List Sp)(a:Sp):Sp->Prop
 |refl:Reach P a a
 |step {b c:Sp}:Reach P a b->c∈A4 b->c∈P->Reach P a c
def Comp(P:List Sp)(a:Sp)(fs:List Sp):Prop:=fs.Nodup/\∀k,k∈fs↔Reach P a k
theorem sub_length:∀{l k:List Sp},l.Nodup->(∀x∈l,x∈k)->l.length<=k.length
 |[],_,_,_=>di _
 |x::l,k,nd,h=>by
  rw[bJ]at nd;have U:x∈k:=h x (.head _);have Y:=sub_length (k:=k.erase x) nd.2 λy u=>(List.mem_erase_of_ne (λ(e:y=x)=>nd.1 (by rw[<- e];exact u))).mpr (h y (.tail _ u))
  rw[List.length_erase_of_mem U]at Y
  have:0<k.length:=List.length_pos_of_mem U
  simp only[aK];exact lin [l.length,k.length - 1,k.length] [] (.b (.A V0 K1) V2) [.b V0 V1,.d (.A V1 K1) V2] rfl Y (ak (lin [k.length] [] (.b K1 V0) [.c K0 V0] rfl this))
theorem same_length{l k:List Sp}(U:l.Nodup)(B:k.Nodup)(h:∀x,x∈l↔x∈k):l.length=k.length :=
 ar (sub_length U λx u=>(h x).mp u) (sub_length B λx u=>(h x).mpr u)
theorem Reach.mem{P:List Sp}{a k:Sp}(h:Reach P a k):k=a\/k∈P:=by
 induction h using Reach.casesOn with|refl=>exact .inl rfl|step _ _ h=>exact .inr h
structure Dfs(N:Sp->Sp->Prop)(R:Sp->Prop)(a:Sp)(fs ws:List Sp):Prop where
 nd:fs.Nodup
 ha:a∈fs
 rc:∀k∈fs,R k
 wf:∀k∈ws,k∈fs
 cl:∀k∈fs,k∉ws->∀c,N k c->c∈fs
structure DfsAt(N:Sp->Sp->Prop)(R:Sp->Prop)(a:Sp)(fs ws:List Sp)(e:Sp)(r:List Sp):Prop where
 nd:fs.Nodup
 ha:a∈fs
 rc:∀k∈fs,R k
 wf:∀k∈ws,k∈fs
 he:e∈fs
 cl:∀k∈fs,k∉ws->∀c,N k c->c∈fs\/(k=e/\c∈r)
noncomputable def Gi(n:Nat)(fs ws:List Sp):Nat:=2 * (n+1 - fs.length)+ws.length
section
variable {N:Sp->Sp->Prop}{R:Sp->Prop}{a e c:Sp}{fs ws r:List Sp}
theorem nodup1(a:Sp):[a].Nodup:=.cons (λZ h=>by exact nM h) .nil
theorem Dfs.start(h:R a):Dfs N R a [a] [a] :=
 ⟨nodup1 a,.head _,λk h'=>by rw[aR.mp h'];exact h,λk h=>h,λk h n=>absurd h n⟩
theorem Dfs.pop(h:Dfs N R a fs (ws++[e]))(y:∀c,N e c->c∈r):DfsAt N R a fs ws e r :=
 ⟨h.nd,h.ha,h.rc,λk B=>h.wf k (ba _ B),h.wf e (bx _ (.head _)),λk B O c d=>by
  by_cases q:k=e
  .clear h;subst q;exact .inr ⟨rfl,y c d⟩
  .exact .inl (h.cl k B (λz=>(aZ.mp z).elim O λz=>q (aR.mp z)) c d)⟩
theorem DfsAt.done(h:DfsAt N R a fs ws e []):Dfs N R a fs ws :=
 ⟨h.nd,h.ha,h.rc,h.wf,λk B O c d=>(h.cl k B O c d).elim id λq=>absurd q.2 bh⟩
theorem DfsAt.skip(h:DfsAt N R a fs ws e (c::r))(Y:N e c->c∈fs):DfsAt N R a fs ws e r :=
 ⟨h.nd,h.ha,h.rc,h.wf,h.he,λk B O d y=>by
  rcases h.cl k B O d y with q|⟨q,U⟩
  .exact .inl q
  .clear h;subst q
   rcases ax.mp U with rfl|U
   .exact .inl (Y y)
   .exact .inr ⟨rfl,U⟩⟩
theorem DfsAt.push(h:DfsAt N R a fs ws e (c::r))(hc:R c)(Y:c∉fs):DfsAt N R a (fs++[c]) (ws++[c]) e r:=by
 refine⟨?_,ba _ h.ha,λk B=>?_,λk B=>?_,ba _ h.he,λk B u d hd=>?_⟩
 .rw[cC]
  exact⟨h.nd,nodup1 c,λx U y O z=>Y (aR.mp O▸z▸U)⟩
 .rcases aZ.mp B with q|q
  .exact h.rc k q
  .rw[aR.mp q];exact hc
 .exact aZ.mpr ((aZ.mp B).imp (h.wf k) id)
 .rcases aZ.mp B with q|q
  .rcases h.cl k q (λz=>u (ba _ z)) d hd with z|⟨z,T⟩
   .exact .inl (ba _ z)
   .exact(ax.mp T).elim (λy=>.inl (bx _ (y▸.head _))) λy=>.inr ⟨z,y⟩
  .exact absurd (bx _ q) u
theorem Gh{n:Nat}(h:(fs++[c]).length<=n+1):Gi n (fs++[c]) (ws++[c])<=Gi n fs ws:=by
 unfold Gi;rw[aE,cw]at h ⊢;rw[aE,cw];exact lin [n,fs.length,n+1 - fs.length,n+1 - (fs.length+1),ws.length] [] (.b (.A (.M 2 V3) (.A V4 K1)) (.A (.M 2 V2) V4)) [.B 2 (.A V0 K1) (.A V1 V2),.D 2 (.A V3 (.A V1 K1)) (.A V0 K1)] rfl (aq.mp (ay ((n+1) - (fs.length)))) (ak (lin [fs.length,n] [] (.b (.A V0 K1) (.A V1 K1)) [.b (.A V0 K1) (.A V1 K1)] rfl h))
end
def nearN(P:List Sp)(k c:Sp):Prop:=c∈A4 k/\c∈P
theorem J1{P:List Sp}{a:Sp}{fs:List Sp}(y:fs.Nodup)(B:∀k∈fs,Reach P a k):fs.length<=P.length+1 :=
 sub_length (k:=a::P) y λk u=>by rcases(B k u).mem with q|q<;>simp[q]
theorem Dfs.end_{P:List Sp}{a:Sp}{fs:List Sp}(h:Dfs (nearN P) (Reach P a) a fs []):Comp P a fs :=
 ⟨h.nd,λk=>⟨h.rc k,λr=>by
  induction r with|refl=>exact h.ha|step _ O d y=>exact h.cl _ y bh _ ⟨O,d⟩⟩⟩
inductive Near(x y:Int):Sp->Prop
 |u:Near x y (x,y - 1)
 |l:Near x y (x - 1,y)
 |r:Near x y (x+1,y)
 |d:Near x y (x,y+1)
theorem Fh{x y:Int}{b:Sp}(h:b∈A4 (x,y)):Near x y b:=by
 refine JF b h ?_ λh=>?_
 .exact .u
 ·
  refine JF b h ?_ λh=>?_
  .exact .l
  ·
   refine JF b h ?_ λh=>?_
   .exact .r
   ·
    refine JF b h ?_ λh=>?_
    .exact .d
    .exact nM h
theorem AX{x y:Int}{b:Sp}(h:Near x y b):b∈A4 (x,y):=by
 induction h using Near.casesOn with|u=>exact .head _|l=>exact .tail _ (.head _)|r=>exact .tail _ (.tail _ (.head _))|d=>exact .tail _ (.tail _ (.tail _ (.head _)))
theorem BC{a b:Sp}(h:b∈A4 a):a∈A4 b:=by
 cases Fh h with|u=>refine AX ?_;have:=Near.d (x:=a.1) (y:=a.2 - 1);rwa [bA]at this|l=>refine AX ?_;have:=Near.r (x:=a.1 - 1) (y:=a.2);rwa [bA]at this|r=>refine AX ?_;have:=Near.l (x:=a.1+1) (y:=a.2);rwa [dw]at this|d=>refine AX ?_;have:=Near.u (x:=a.1) (y:=a.2+1);rwa [dw]at this
end
section
noncomputable def HX(s:List Sp)(k:Sp):List Sp:=if k∈s then s else s++[k]
theorem HW{s:List Sp}{k x:Sp}:x∈HX s k↔x∈s\/x=k:=by
 unfold HX
 by_cases h:k∈s
 .rw[if_pos h];exact⟨.inl,λq=>q.elim id λe=>e▸h⟩
 .rw[if_neg h,aZ,aR]
section
variable (nb:Sp->List Sp)(col:Sp->Bool)
variable {nb col}
end
end
section
noncomputable def FK(k:Sp):Bool:=(k.1+k.2).fmod 2 == 0
noncomputable def nbP(P:List Sp)(a:Sp):List Sp:=if a∈P then (A4 a).filter (λc=>decide (c∈P)) else []
theorem nbP_mem{P:List Sp}{a b:Sp}:b∈nbP P a↔a∈P/\b∈A4 a/\b∈P:=by
 unfold nbP
 by_cases h:a∈P
 .rw[if_pos h,bE,decide_eq_true_eq]
  exact⟨λq=>⟨h,q⟩,λq=>q.2⟩
 .rw[if_neg h]
  exact⟨λq=>(bh q).elim,λq=>(h q.1).elim⟩
theorem LH{s:Int}{b:Bool}(h:(s.fmod 2 == 0)=b):((s+1).fmod 2 == 0)=!b/\((s - 1).fmod 2 == 0)=!b:=by
 rw[dy _ (by decide)]at h ⊢
 rw[dy _ (by decide)]
 cases b with
 |true =>
  have:=eq_of_beq h
  exact⟨beq_eq_false_iff_ne.mpr (by omega),beq_eq_false_iff_ne.mpr (by omega)⟩
 |false =>
  have:=beq_eq_false_iff_ne.mp h
  exact⟨beq_iff_eq.mpr (by omega),beq_iff_eq.mpr (by omega)⟩
theorem CR{a b:Sp}(h:b∈A4 a):FK b=!(FK a):=by
 refine Ao (LH (s:=a.1+a.2) (b:=FK a) rfl) λY O=>?_
 cases Fh h with|u=>rw[<- O];show ((a.1+(a.2 - 1)).fmod 2 == 0)=_;rw[<- Int.add_sub_assoc]|l=>rw[<- O];show ((a.1 - 1+a.2).fmod 2 == 0)=_;rw[show a.1 - 1+a.2=a.1+a.2 - 1 by exact ai (lin [] [a.fst,a.snd] (.f (.A (.S V0 K1) V1) (.S (.A V0 V1) K1)) [] rfl) (lin [] [a.fst,a.snd] (.f (.S (.A V0 V1) K1) (.A (.S V0 K1) V1)) [] rfl)]|r=>rw[<- Y];show ((a.1+1+a.2).fmod 2 == 0)=_;rw[show a.1+1+a.2=a.1+a.2+1 by exact ai (lin [] [a.fst,a.snd] (.f (.A (.A V0 K1) V1) (.A (.A V0 V1) K1)) [] rfl) (lin [] [a.fst,a.snd] (.f (.A (.A V0 V1) K1) (.A (.A V0 K1) V1)) [] rfl)]|d=>rw[<- Y];show ((a.1+(a.2+1)).fmod 2 == 0)=_;rw[<- dJ]
theorem IY{s:List Sp}{k:Sp}(n:s.Nodup)(h:k∉s):(s++[k]).Nodup:=by
 rw[cC];exact⟨n,bJ.mpr ⟨bh,fu⟩,λa ha b z e=>h (by rw[<- aR.mp z,<- e];exact ha)⟩
noncomputable def FI(a b:Sp):Bool:=if a.2=b.2 then decide (a.1<b.1) else decide (a.2<b.2)
theorem ordB_iff{a b:Sp}:FI a b=true↔a.2<b.2\/(a.2=b.2/\a.1<b.1):=by
 unfold FI
 by_cases h:a.2=b.2
 .rw[if_pos h,decide_eq_true_eq];exact⟨λz=>.inr (⟨ai (lin [] [a.snd,b.snd] (.f V0 V1) [.h V0 V1] rfl h) (lin [] [a.snd,b.snd] (.f V1 V0) [.H (-1) V0 V1] rfl h),lin [] [a.fst,b.fst] (.g V0 V1) [.g V0 V1] rfl z⟩),λz=>z.elim (λO=>lin [] [a.snd,b.snd,a.fst,b.fst] (.G 0 V2 V3) [.H (-1) V0 V1,.g V0 V1] rfl h O) (λO=>lin [] [a.fst,b.fst] (.g V0 V1) [.g V0 V1] rfl O.2)⟩
 .rw[if_neg h,decide_eq_true_eq];exact⟨λz=>.inl (lin [] [a.snd,b.snd] (.g V0 V1) [.g V0 V1] rfl z),λz=>(aH h).elim (λO=>lin [] [a.snd,b.snd] (.g V0 V1) [.g V0 V1] rfl O) (λO=>z.elim (λT=>lin [] [a.snd,b.snd] (.g V0 V1) [.g V0 V1] rfl T) (λT=>lin [] [b.snd,a.snd] (.G 0 V1 V0) [.g V0 V1,.h V1 V0] rfl O T.1))⟩
noncomputable def BE(l:List (Sp×Sp)):List Sp:=l.flatMap λq=>[q.1,q.2]
theorem FX{a b:Sp}(h:FI a b=true):FI b a≠true:=λh'=>by
 have h:=ordB_iff.mp h;have h':=ordB_iff.mp h';exact h.elim (λz=>h'.elim (λO=>lin [] [a.snd,b.snd] .no [.g V0 V1,.g V1 V0] rfl z O) (λO=>lin [] [a.snd,b.snd] .no [.g V0 V1,.h V1 V0] rfl z O.1)) (λz=>h'.elim (λO=>lin [] [a.snd,b.snd] .no [.h V0 V1,.g V1 V0] rfl z.1 O) (λO=>lin [] [a.fst,b.fst] .no [.g V0 V1,.g V1 V0] rfl z.2 O.2))
theorem ordB_tot{a b:Sp}(h:a≠b):FI a b=true\/FI b a=true:=by
 rw[ordB_iff,ordB_iff]
 have:a.1≠b.1\/a.2≠b.2:=cH λq=>h (bY (cH λz=>q (.inl z)) (cH λz=>q (.inr z)))
 omega
theorem Gk{m:Sp->Sp}:∀{l:List Sp},l.Nodup->(∀a∈l,FI a (m a)=true/\m (m a)=a)->(BE (l.map λc=>(c,m c))).Nodup
 |[],_,_=>.nil
 |a::l,nd,h=>by
  rw[bJ]at nd;refine Ao (h a (.head _)) λT d=>?_;have ih:=Gk nd.2 λb Y=>h b (.tail _ Y);show ([a,m a]++BE (l.map λc=>(c,m c))).Nodup;have ne:a≠m a:=λe=>by have:=ordB_iff.mp T;rw[<- e]at this;exact this.elim (λO=>lin [] [a.snd] .no [.g V0 V0] rfl O) (λO=>lin [] [a.fst] .no [.g V0 V0] rfl O.2)
  have key:∀x,x=a\/x=m a->∀b∈l,x=b\/x=m b->False:=λx U b Y u=>by
   refine Ao (h b (.tail _ Y)) λB b2=>?_;have ab:a≠b:=λe=>nd.1 (e▸Y)
   rcases U with rfl|rfl<;>rcases u with e|e
   .exact ab e
   .rw[e,b2]at T;exact FX T B
   .rw[<- e,d]at B;exact FX T B
   .exact ab (by rw[<- d,e,b2])
  refine cC.mpr ⟨bJ.mpr ⟨λq=>ne (aR.mp q),bJ.mpr ⟨bh,fu⟩⟩,ih,λx U y u e=>?_⟩;subst e;refine X1pp (eJ.mp u) λq hq u=>?_;obtain⟨b,Y,rfl⟩:=aW.mp hq;refine key x ?_ b Y ?_
  .rcases ax.mp U with z|z
   .exact .inl z
   .exact .inr (aR.mp z)
  .rcases ax.mp u with z|z
   .exact .inl z
   .exact .inr (aR.mp z)
end
section
set_option tactic.hygienic true in
theorem Ib{α:Type}{g:α->AV}{q:Bool}{p:Pat}{body:M->LS->KS->Prop}{ok:Option Nat}{K:KS}(J:List α->List α->M->LS->Prop)(y:∀d m V,J d [] m V->K .next m V)
  (hs:∀d x r m V,J d (x::r) m V->∀C:M->LS->Prop,(∀O z,J (d++[x]) r O z->C O z)->patW q p (g x) m (λAq=>body Aq V (G4 ok V C K))):∀{r d:List α}{m:M}{V:LS},J d r m V->Jq q p body ok K (r.map g) m V
 |[],d,m,V,h=>y d m V h
 |x::r,d,m,V,h=>hs d x r m V h (Jq q p body ok K (r.map g)) λO z h=>Ib J y hs h
set_option tactic.hygienic true in
theorem A7{α:Type}{g:α->AV}{q:Bool}{p:Pat}{body:M->LS->KS->Prop}{ok:Option Nat}{K:KS}{items:List AV}{r d:List α}{m:M}{V:LS}(e:items=r.map g)(J:List α->List α->M->LS->Prop)(O:∀d m V,J d [] m V->K .next m V)
  (hs:∀d x r m V,J d (x::r) m V->∀C:M->LS->Prop,(∀As Ab,J (d++[x]) r As Ab->C As Ab)->patW q p (g x) m (λAq=>body Aq V (G4 ok V C K))) (h:J d r m V):Jq q p body ok K items m V:=by
 rw[e];exact Ib J O hs h
theorem ifT{b:Bool}{A B:Prop}(e:b=true)(h:A):ifW b A B:=by subst e;exact h
theorem ifF{b:Bool}{A B:Prop}(e:b=false)(h:B):ifW b A B:=by subst e;exact h
theorem ifB{b:Bool}{A B:Prop}(h:b=true->A)(h':b=false->B):ifW b A B:=by
 cases b with|true=>exact h rfl|false=>exact h' rfl
noncomputable def tt(l:List Ag):List (Ag×AV):=l.map λp=>(p,.bool true)
theorem B1(l:List Ag)(k:Ag):(Cn (tt l) k).isSome=decide (k∈l):=by
 unfold Cn tt;rw[Option.isSome_map]
 induction l with
 |nil=>rfl
 |cons x r y =>
  rw[bQ,dC]
  by_cases e:x=k
  .clear y;subst e;simp
  .have:decide (x=k)=false:=decide_eq_false e
   simp only[this];rw[y];simp[d0 e]
theorem in_tt{P:List Ag}{k:Ag}{V:LS}:InV V (sp k) (.dict (tt P)) (decide (k∈P)):=B1 P k
theorem in_ttl{P:List Ag}{k:Ag}{V:LS}{a:Addr}{i:Nat}(e:slot V i=.at a (.dict (tt P))):InV V (sp k) (.loc a i) (decide (k∈P)):=by
 unfold InV;simp only[e];exact⟨trivial,B1 P k⟩
theorem Hj{l:List Ag}{k:Ag}(h:k∉l):BH (tt l) k (.bool true)=tt (l++[k]):=by
 unfold BH;rw[B1,decide_eq_false h,if_neg (by decide)]
 unfold tt;rw[bB];rfl
theorem BW(l:List Ag):(tt l).length=l.length:=by unfold tt;rw[an]
end
section
noncomputable def c_near:Ap:=⟨[1079135020893454991476,121,122],1,[.assign (.tup [(.v 1),(.v 2)]) (.v 0),.ret (.list [(.tup [(.v 1),(.bin .Sub (.v 2) (.int 1))]),(.tup [(.bin .Sub (.v 1) (.int 1)),(.v 2)]),(.tup [(.bin .Add (.v 1) (.int 1)),(.v 2)]),(.tup [(.v 1),(.bin .Add (.v 2) (.int 1))])])]⟩
noncomputable def c_spread:Ap:=⟨[2263110204230247865775030375,940784431544538234996,1953625148292055806928486503,8847346042641382399987775315101205135480,1079135020893454991476],2,[.assign (.v 2) (.mu 4 (.dict [(.v 0)] [(.bool true)])),.assign (.v 3) (.mu 5 (.list [(.v 0)])),.while_ (.cmp .Gt (.call (.g 0) [(.v 3)]) (.int 0)) [.for_ (.v 4) (.call (.g 34) [(.meth (.v 3) 1 [])]) [.ite (.and [(.cmp .In (.v 4) (.v 1)),(.cmp .NotIn (.v 4) (.v 2))]) [.setitem (.v 2) (.v 4) (.bool true),.expr (.meth (.v 3) 0 [(.v 4)])] []]],.ret (.v 2)]⟩
noncomputable def spot1?(avs:List AV):Option Ag:=(one? avs).bind spot?
theorem spot1?_out{u:List AV}{k:Ag}(h:spot1? u=some k):u=[sp k]:=by
 refine X1pp (AD h) λa Y h=>?_;rw[one?_out Y,spot?_out h]
noncomputable def Lu:FS:=⟨λavs=>(spot1? avs).bind λk=>some (.list ((A4 k).map sp)),λZ Z Z Z=>False,false⟩
theorem near_ok{ex:List Nat}:FnOk ⟨true,ex,[],[],[]⟩ c_near .val 2 0 Lu:=by
 refine⟨λZ Z Z Z h=>h.elim,λu v h K U=>?_⟩;obtain⟨k,Y,h⟩:=AD h;obtain rfl:=ae h;obtain rfl:=spot1?_out Y;exact⟨rfl,U⟩
theorem Fm{n:Nat}(h:n<=10000):n<=big:=aw h (by decide)
theorem Dfs.len{k:Nat}{fs ws:List Sp}{n:Nat}(h:Gi k fs ws<=n):ws.length<=n:=by unfold Gi at h;exact lin [k+1 - fs.length,ws.length,n] [] (.b V1 V2) [.b (.A (.M 2 V0) V1) V2] rfl h
noncomputable def spM(p:Ag)(v:AV)(a1 a2:Addr)(x:Option AV):M:=[some (sp p),some v,some (.loc a1 4),some (.loc a2 5),x]
noncomputable def spS(b0:Slot)(a1 a2:Addr)(F:List (Ag×AV))(W:List AV)(tl:LS):LS:=b0::.no::.no::.no::.at a1 (.dict F)::.at a2 (.list W)::tl
inductive SpJ(P:List Ag)(p:Ag)(v:AV)(a1 a2:Addr)(b0:Slot)(tl:LS):Nat->M->LS->Prop
 |mk (fs ws:List Ag)(x:Option AV)(F:List (Ag×AV))(W:List AV)(hd:Dfs (nearN P) (Reach P p) p fs ws)(hM:Gi P.length fs ws<=2 * (P.length+1)+1)(eF:F=tt fs)(eW:W=ws.map sp):SpJ P p v a1 a2 b0 tl (Gi P.length fs ws) (spM p v a1 a2 x) (spS b0 a1 a2 F W tl)
inductive SpI(P:List Ag)(p:Ag)(v:AV)(a1 a2:Addr)(b0:Slot)(tl:LS)(e:Ag)(n:Nat)(d r:List Ag):M->LS->Prop
 |mk (fs ws:List Ag)(x:Option AV)(F:List (Ag×AV))(W:List AV)(hd:DfsAt (nearN P) (Reach P p) p fs ws e r)(hM:Gi P.length fs ws<n)(hr:∀c∈r,c∈A4 e)(eF:F=tt fs)(eW:W=ws.map sp):SpI P p v a1 a2 b0 tl e n d r (spM p v a1 a2 x) (spS b0 a1 a2 F W tl)
theorem GJ{ex:List Nat}{p e c:Ag}{P d r:List Ag}{v:AV}{b0:Slot}{tl:LS}{X:XL}{KK:KS}{a1 a2:Addr}{n:Nat}{m:M}{V:LS}(hP:P.length<=1000)(hn:n<=2 * (P.length+1)+1)(Y:∀(k:Ag)(τ:LS),InV (b0::τ) (sp k) v (decide (k∈P)))
  (j:SpI P p v a1 a2 b0 tl e n d (c::r) m V) (C:M->LS->Prop) (hC:∀As Ab,SpI P p v a1 a2 b0 tl e n (d++[c]) r As Ab->C As Ab) :
  patW true (.v 4) (sp c) m (λAq=>wpSs ⟨true,ex,[(34,Lu)],[],[]⟩ [.ite (.and [(.cmp .In (.v 4) (.v 1)),(.cmp .NotIn (.v 4) (.v 2))]) [.setitem (.v 2) (.v 4) (.bool true),.expr (.meth (.v 3) 0 [(.v 4)])] []] X Aq V (G4 aa V C KK)):=by
 induction j using SpI.casesOn with
 |mk fs ws x F W y O hr U eW =>
  have u:∀c∈r,c∈A4 e:=λc z=>hr c (.tail _ z)
  by_cases h1:c∈P
  .refine⟨_,Y c _,ifT (decide_eq_true h1) ⟨_,⟨rfl,by rw[U];exact B1 fs c⟩,?_⟩⟩
   by_cases T:c∈fs
   .rw[decide_eq_true T]
    exact hC _ _ (.mk fs ws _ F W (y.skip λZ=>T) O u U eW)
   .rw[decide_eq_false T]
    have hf:=J1 y.nd y.rc;have hw:=Dfs.len (aw (dE O) hn);refine⟨rfl,by rw[U,BW];exact Fm (lin [P.length,fs.length] [] (.b V1 IK) [.b V0 AG,.b V1 (.A V0 K1)] rfl hP hf),rfl,rfl,by rw[eW,an];exact Fm (lin [P.length,ws.length] [] (.b V1 IK) [.B 2 V0 AG,.b V1 (.A (.M 2 (.A V0 K1)) K1)] rfl hP hw),?_⟩
    have pu:=y.push (.step (y.rc e y.he) (hr c (.head _)) h1) T;exact hC _ _ (.mk (fs++[c]) (ws++[c]) _ _ _ pu (dv (Gh (J1 pu.nd pu.rc)) O) u (by rw[U,Hj T]) (by rw[eW,bB];rfl))
  .refine⟨_,Y c _,ifF (decide_eq_false h1) ?_⟩
   exact hC _ _ (.mk fs ws _ F W (y.skip λq=>absurd q.2 h1) O u U eW)
theorem DH{ex:List Nat}{p:Ag}{P:List Ag}{v:AV}{u:Slot}{tl:LS}{X:XL}{KK:KS}(hP:P.length<=1000)(hin:∀(k:Ag)(τ:LS),InV (u::τ) (sp k) v (decide (k∈P)))
  (hK:∀fs y Y m,Comp P p fs->KK (.ret (.loc y 4)) m (u::.no::.no::.no::.at y (.dict (tt fs))::.at Y (.list [])::tl)) :
  wpSs ⟨true,ex,[(34,Lu)],[],[]⟩ c_spread.body X [some (sp p),some v,aa,aa,aa] (u::.no::.no::.no::.no::.no::tl) KK:=by
 intro y Y;refine⟨SpJ P p v y Y u tl,⟨_,.mk [p] [p] _ _ _ (Dfs.start .refl) (by unfold Gi;rw[cw];exact lin [P.length+1 - 1,P.length] [] (.b (.A (.M 2 V0) K1) (.A (.M 2 (.A V1 K1)) K1)) [.B 2 V0 (.A V1 K1)] rfl (fM (P.length+1) (1))) rfl rfl⟩,λn m V j=>?_⟩
 induction j using SpJ.casesOn with
 |mk fs ws x F W hd hM eF U =>
  have O:W.length<=big:=by rw[U,an];exact Fm (aw (Dfs.len hM) (lin [P.length] [] (.b (.A (.M 2 (.A V0 K1)) K1) IK) [.B 2 V0 AG] rfl hP))
  refine⟨rfl,O,?_⟩
  rcases List.eq_nil_or_concat ws with rfl|⟨w,e,rfl⟩
  .subst eF;clear O;subst U
   exact hK fs y Y _ hd.end_
  .rw[eu]at hd hM ⊢
   rw[eu,bB]at U;have l1:(w++[e]).length=w.length+1:=aE;refine ifT (decide_eq_true (by rw[U,aE];exact Int.ofNat_lt.mpr (gl _))) ⟨rfl,rfl,O,sp e,by rw[U];exact List.getLast?_concat,?_⟩
   refine A7 (g:=sp) rfl (SpI P p v y Y u tl e (Gi P.length fs (w++[e]))) (λd m τ j=>?_) (λd c r m τ j C hC=>GJ hP hM hin j C hC) (d:=[]) (.mk fs w _ _ _ (hd.pop λc z=>z.1) (by unfold Gi;rw[l1];exact lin [P.length+1 - fs.length,w.length] [] (.c (.A (.M 2 V0) V1) (.A (.M 2 V0) (.A V1 K1))) [] rfl) (λZ z=>z) eF (by rw[U];exact List.dropLast_concat))
   induction j using SpI.casesOn with|mk fs' ws' x' F' W' hd' T _ eF' eW'=>exact⟨_,T,.mk fs' ws' _ _ _ hd'.done (aw (dE T) hM) eF' eW'⟩
inductive QN(avs:List AV)(V:LS)(K:KR):Prop
 |mk (p:_)(P:List Sp)(c0:P.length<=1000)(c1:((avs=[sp p,.dict (tt P)]/\V=[]/\∀fs,Comp P p fs->K ⟨[.dict (tt fs)],.new 0⟩ [])\/∃a,avs=[sp p,.loc a 0]/\V=[.at a (.dict (tt P))]/\∀fs,Comp P p fs->K ⟨[.dict (tt fs)],.new 0⟩ [.at a (.dict (tt P))])):QN avs V K
noncomputable def Lr:FS:=⟨λZ=>aa,λavs V K X=>QN avs V K,false⟩
theorem JW{ex:List Nat}:FnOk ⟨true,ex,[(34,Lu)],[],[]⟩ c_spread .new 3 6 Lr:=by
 refine⟨λu V K X h=>?_,λu v h K U=>by exact nS h⟩
 obtain⟨p,P,d,⟨rfl,rfl,U⟩|⟨a,rfl,rfl,U⟩⟩:=h
 .exact⟨rfl,DH d (λk τ=>in_tt) λfs y z m h=>⟨rfl,U fs h⟩⟩
 .exact⟨rfl,DH d (λk τ=>in_ttl rfl) λfs y z m h=>⟨rfl,U fs h⟩⟩
end
section
def Nice(d:Nat)(a:AV):Prop:=∃p,GC a=some p/\p.canLay0=true/\p.depth<=d
theorem Nice.eq{d:Nat}{a:AV}(h:Nice d a)(le:d<=64):EqP a a true:=by
 refine X1ppp h λp Y z U=>?_;have s:dF p=true:=by
  unfold dF;rw[z,decide_eq_true (aw U le)];rfl
 exact .py ⟨p,p,Y,Y,s,s,PySem.SeqAt.eqv_refl p z⟩
theorem Nice.all{d:Nat}:∀{l:List AV},(∀x∈l,Nice d x)->∃ps,Dt l=some ps/\cB ps=true/\cr ps<=d
 |[],_=>⟨[],rfl,by simp[cB],by simp[cr]⟩
 |x::l,h=>by
  refine X1ppp (h x (.head _)) λp U z Y=>?_;refine X1ppp (Nice.all λy u=>h y (.tail _ u)) λps O B T=>?_;refine⟨p::ps,?_,?_,?_⟩
  .show (GC x).bind _=_
   rw[U,O];rfl
  .rw[cB,z,B];rfl
  .rw[cr];exact Nat.max_le.mpr ⟨Y,T⟩
theorem Nice.list{d:Nat}{l:List AV}(h:∀x∈l,Nice d x):Nice (d+1) (.list l):=by
 refine X1ppp (Nice.all h) λps y B T=>?_;refine⟨.list ps,?_,?_,?_⟩
 .show (Dt l).map _=_
  rw[y];rfl
 .rw[fw];exact B
 .rw[ik];exact lin [cr ps,d] [] (.b (.A V0 K1) (.A V1 K1)) [.b V0 V1] rfl T
theorem Nice.tup{d:Nat}{l:List AV}(h:∀x∈l,Nice d x):Nice (d+1) (.tup l):=by
 refine X1ppp (Nice.all h) λps y B T=>?_;refine⟨.tuple ps,?_,?_,?_⟩
 .show (Dt l).map _=_
  rw[y];rfl
 .rw[fw];exact B
 .rw[ik];exact lin [cr ps,d] [] (.b (.A V0 K1) (.A V1 K1)) [.b V0 V1] rfl T
theorem Nice.int(i:Int):Nice 0 (.int i):=⟨.int i,rfl,by simp[fw],by simp[ik]⟩
theorem Nice.sp(k:Ag):Nice 1 (sp k):=Nice.tup λx u=>by
 rcases ax.mp u with rfl|u
 .exact Nice.int _
 .rw[aR.mp u];exact Nice.int _
theorem Nice.spots(P:List Ag):Nice 2 (.list (P.map Internal.sp)):=Nice.list λx u=>by
 refine X1pp (aW.mp u) λk Z z=>?_;clear u;subst z;exact Nice.sp k
noncomputable def Et(k:Ag):d5:=.tuple [.int k.1,.int k.2]
theorem Il(a b:Ag):eV (Et a) (Et b)=decide (a=b):=by
 obtain⟨u,T⟩:=a;obtain⟨z,B⟩:=b;have e:∀x y:Int,(x == y)=decide (x=y):=λZ Z=>rfl;simp[Et,eV,PyData.eqvAll,Prod.ext_iff,e]
theorem any_sp(P:List Ag)(k:Ag):((P.map Et).any λy=>eV y (Et k))=decide (k∈P):=by
 induction P with
 |nil=>rfl
 |cons a P u =>
  rw[bQ,fR,Il,u]
  by_cases e:a=k
  .clear u;subst e;simp
  .simp[e,d0 e]
theorem HA(P:List Ag):Dt (P.map sp)=some (P.map Et):=by
 induction P with|nil=>rfl|cons k P y=>show (GC (sp k)).bind _=_;rw[y];rfl
theorem lay_sp(P:List Ag):cB (P.map Et)=true:=by
 induction P with|nil=>rfl|cons k P y=>rw[bQ,cB,y];simp[Et,fw,cB]
theorem InP.spots(P:List Ag)(k:Ag):InP (sp k) (.list (P.map sp)) (decide (k∈P)) :=
 ⟨Et k,P.map Et,rfl,.inl (by show (Dt _).map _=_;rw[HA];rfl),lay_sp P,by simp[Et,fw,cB],by simp[Et,ik,cr],any_sp P k⟩
end
section
noncomputable def LP:Ap:=⟨[2011653587633505230741569653],1,[.ret (.and [(.call (.g 1) [(.v 0),(.g 2)]),(.not (.call (.g 1) [(.v 0),(.g 3)]))])]⟩
noncomputable def c_spot:Ap:=⟨[2011653587633505230741569653],1,[.ret (.and [(.call (.g 1) [(.v 0),(.g 4)]),(.cmp .Eq (.call (.g 0) [(.v 0)]) (.int 2)),(.call (.g 30) [(.sub (.v 0) (.int 0))]),(.call (.g 30) [(.sub (.v 0) (.int 1))])])]⟩
noncomputable def EP:Ap:=⟨[1079135020893454991476],1,[.ret (.tup [(.sub (.v 0) (.int 1)),(.sub (.v 0) (.int 0))])]⟩
noncomputable def c_Fhas:Ap:=⟨[950007799183325528180,1972967859948709507384737905],2,[.ret (.and [(.call (.g 31) [(.v 1)]),(.cmp .In (.v 1) (.attr (.v 0) 12))])]⟩
noncomputable def IG:Ap:=⟨[950007799183325528180],1,[.ret (.mu 4 (.call (.g 5) [(.attr (.v 0) 12)]))]⟩
noncomputable def C0:Ap:=⟨[4664956181807845603384547380035684,121,122],1,[.assign (.tup [(.v 1),(.v 2)]) (.v 0),.ret (.list [(.tup [(.bin .Sub (.v 1) (.int 1)),(.bin .Sub (.v 2) (.int 1))]),(.tup [(.v 1),(.bin .Sub (.v 2) (.int 1))]),(.tup [(.bin .Sub (.v 1) (.int 1)),(.v 2)]),(.tup [(.v 1),(.v 2)])])]⟩
noncomputable def ES:Ap:=⟨[192524121870682778597944489011036038917448218529394060437475033184,4381002331299926544718449986240608],2,[.ite (.cmp .Lt (.v 1) (.call (.g 0) [(.v 0)])) [.ret (.sub (.v 0) (.v 1))] [],.ret (.int 0)]⟩
noncomputable def IB:Ap:=⟨[189233104125022861345122375117010683388186817415792500651818221664,4381002331299926544718449986240608],2,[.ret (.bin .Mod (.bin .Add (.bin .Add (.bin .Mult (.v 0) (.int 48271)) (.bin .Mult (.int 7919) (.v 1))) (.int 11)) (.int 2147483647))]⟩
noncomputable def IC:Ap:=⟨[90233379350378998227153714054542338114227455176400177201248,79248450939308422951359488504115116927624233569666205745248],1,[.assign (.v 1) (.list [(.call (.g 1) [(.v 0),(.g 19)]),(.call (.g 1) [(.v 0),(.g 20)]),(.call (.g 1) [(.v 0),(.g 21)])]),.assign (.v 1) (.bin .Add (.v 1) (.list [(.call (.g 1) [(.v 0),(.g 22)]),(.call (.g 1) [(.v 0),(.g 23)]),(.call (.g 1) [(.v 0),(.g 24)])])),.assign (.v 1) (.bin .Add (.v 1) (.list [(.call (.g 1) [(.v 0),(.g 25)]),(.call (.g 1) [(.v 0),(.g 26)]),(.call (.g 1) [(.v 0),(.g 27)])])),.ret (.bin .Add (.v 1) (.list [(.call (.g 1) [(.v 0),(.g 18)]),(.call (.g 1) [(.v 0),(.g 17)])]))]⟩
noncomputable def IE:Ap:=⟨[90233379350378998227153714054542338114227455176400177201248,80033084540639579203529368251194428811096298434648411734112,4381002331299926544718449986240608],2,[.ret (.cmp .Eq (.call (.g 78) [(.v 0)]) (.comp (.or [(.cmp .Eq (.v 2) (.v 1)),(.cmp .Gt (.v 2) (.int 8))]) 2 (.call (.g 8) [(.int 11)]) []))]⟩
noncomputable def IA:Ap:=⟨[80033084540639579203529368251194428811096298434648411734112],1,[.ret (.tup [(.sub (.v 0) (.int 1)),(.sub (.v 0) (.int 0))])]⟩
theorem At{n:Nat}(h:n<=1000):n<=big:=by unfold big;exact lin [n] [] (.b V0 Ay) [.b V0 AG] rfl h
noncomputable def pureF(f:List AV->Option AV):FS:=⟨f,λZ Z Z Z=>False,false⟩
noncomputable def specF(f:List AV->LS->KR->XL->Prop):FS:=⟨λZ=>aa,f,false⟩
theorem FnOk.pureF{Φ:Tab}{c:Ap}{nv ns:Nat}{f:List AV->Option AV}(h:∀avs v,f avs=some v->∀K:KR,K ⟨[],.val v⟩ []->fnW Φ c .val nv ns avs [] K BZ):FnOk Φ c .val nv ns (pureF f):=⟨λZ Z Z Z h=>h.elim,h⟩
theorem FnOk.specF{Φ:Tab}{c:Ap}{rs:Rs}{nv ns:Nat}{f:List AV->LS->KR->XL->Prop}(h:∀avs V K X,f avs V K X->fnW Φ c rs nv ns avs V K X):FnOk Φ c rs nv ns (specF f):=⟨h,λZ Z h=>by exact nS h⟩
noncomputable def whole?:AV->Option Bool
 |.int _=>some true
 |.bool _=>some false
 |.str _=>some false
 |_=>aa
noncomputable def fWhole:FS:=pureF λavs=>(one? avs).bind λa=>(whole? a).bind λb=>some (.bool b)
theorem whole_ok{ex:List Nat}:FnOk ⟨true,ex,[],[],[]⟩ LP .val 0 0 fWhole:=by
 refine .pureF λu v h K U=>?_;refine X1pp (AD h) λa Y h=>?_;refine X1pp (AD h) λb z h=>?_;obtain rfl:=ae h;obtain rfl:=one?_out Y
 cases a<;>first|(obtain rfl:=ae z;exact⟨rfl,U⟩)|cases z
inductive Odd:AV->Prop
 |none:Odd .none
 |str (s:Str):Odd (.str s)
 |list (l:List AV):Odd (.list l)
 |dict (l:List (Ag×AV)):Odd (.dict l)
 |one (x:Int):Odd (.tup [.int x])
 |bi (b:Bool)(x:Int):Odd (.tup [.bool b,.int x])
 |is (x:Int)(s:Str):Odd (.tup [.int x,.str s])
 |three (x y z:Int):Odd (.tup [.int x,.int y,.int z])
theorem Odd.ix{v:AV}(h:Odd v):AF [v]=[]/\∀n,A1 [v] n=[v]:=by
 induction h using Odd.casesOn<;>exact⟨rfl,λZ=>rfl⟩
inductive QM(avs:List AV)(V:LS)(K:KR):Prop
 |mk (v:_)(c0:avs=[v])(c1:V=[])(c2:((∃k,v=sp k/\K ⟨[],.val (.bool true)⟩ [])\/(Odd v/\K ⟨[],.val (.bool false)⟩ []))):QM avs V K
noncomputable def fSpot:FS:=specF λavs V K Z=>QM avs V K
theorem spot_ok{ex:List Nat}:FnOk ⟨true,ex,[(30,fWhole)],[],[]⟩ c_spot .val 0 0 fSpot:=by
 refine .specF λu V K X h=>?_;obtain⟨v,rfl,rfl,⟨k,rfl,U⟩|⟨o,U⟩⟩:=h
 .exact⟨rfl,At (bf rfl),U⟩
 .induction o using Odd.casesOn<;>first|exact⟨rfl,U⟩|exact⟨rfl,At (bf rfl),U⟩
theorem ownW_no{f:List AV->LS->KR->XL->Prop}{mu:Option Nat}{u:List AV}{V:LS}{K:KV}{X:XL}(Y:AF u=[])(z:A1 u 0=u)(h:f u [] (λr V'=>Ek mu r V K) (λc V'=>X c V)):ownW (specF f) mu u V K X:=by
 show (match Ez (AF u)with
  |true=>f (A1 u 0) ((AF u).map (slot V)) (λr V'=>Ek mu r (wb V (AF u) V') K) (λc V'=>X c (wb V (AF u) V'))
  |false=>False)
 rw[Y,z];exact h
theorem Odd.own1{f:List AV->LS->KR->XL->Prop}{mu:Option Nat}{v:AV}{V:LS}{K:KV}{X:XL}(o:Odd v)(h:f [v] [] (λr V'=>Ek mu r V K) (λc V'=>X c V)):ownW (specF f) mu [v] V K X:=ownW_no o.ix.1 (o.ix.2 0) h
noncomputable def keyF(avs:List AV):Option AV:=(spot1? avs).bind λk=>some (sp (k.2,k.1))
theorem FnOk.spot{Φ:Tab}{c:Ap}{nv ns:Nat}{g:Ag->AV}(h:∀(k:Ag)(K:KR),K ⟨[],.val (g k)⟩ []->fnW Φ c .val nv ns [sp k] [] K BZ):FnOk Φ c .val nv ns (Internal.pureF λu=>(spot1? u).bind λk=>some (g k)) :=
 .pureF λu v e K U=>by
  refine X1pp (AD e) λk Y e=>?_;obtain rfl:=ae e;obtain rfl:=spot1?_out Y;exact h k K U
theorem Ex{ex:List Nat}:FnOk ⟨true,ex,[],[],[]⟩ EP .val 0 0 (pureF keyF):=.spot λk K U=>⟨rfl,U⟩
theorem F2{ex:List Nat}:FnOk ⟨true,ex,[],[],[]⟩ IA .val 0 0 (pureF keyF):=.spot λk K U=>⟨rfl,U⟩
noncomputable def Bt(k:Ag):List Ag:=[(k.1 - 1,k.2 - 1),(k.1,k.2 - 1),(k.1 - 1,k.2),(k.1,k.2)]
noncomputable def Ie:FS:=pureF λavs=>(spot1? avs).bind λk=>some (.list ((Bt k).map sp))
theorem round_ok{ex:List Nat}:FnOk ⟨true,ex,[],[],[]⟩ C0 .val 2 0 Ie:=.spot λk K U=>⟨rfl,U⟩
noncomputable def EI:FS:=pureF λavs=>(two? avs).bind λp=>(int2? p.1 p.2).bind λk=>some (.int ((k.1 * 48271+7919 * k.2+11).fmod 2147483647))
end
section
theorem Dd{α:Type}{g:α->AV}{i:Nat}{u:M->LS->KV->Prop}{T:M->LS->KB->Prop}{ok:Option Nat}{m:M}{K:List AV->LS->Prop}{P:α->Bool}{f:α->AV}{V:LS}:∀{r:List α}{O:List AV},
  (∀x∈r,∀(O:List AV)(C:List AV->LS->Prop),(P x=true->C (O++[f x]) V)->(P x=false->C O V)->T (E9 m i (g x)) V (λb Aa=>ifW b (u (E9 m i (g x)) Aa (λy z=>stays ok V z (C (O++[y]) z))) (stays ok V Aa (C O Aa)))) ->
  K (O++(r.filter P).map f) V->D7 i u T ok m K (r.map g) O V
 |[],O,_,hK=>by rw[io,List.map_nil,aL]at hK;exact hK
 |x::r,O,h,hK=>h x (.head _) O (λO V=>D7 i u T ok m K (r.map g) O V)
  (λe=>Dd (λy d=>h y (.tail _ d)) (by rw[c7 e,bQ]at hK;rw[aM];exact hK))
  (λe=>Dd (λy d=>h y (.tail _ d)) (by rw[c8 (by rw[e];decide)]at hK;exact hK))
theorem B3{α:Type}{g:α->AV}{i:Nat}{u:M->LS->KV->Prop}{T:M->LS->KB->Prop}{ok:Option Nat}{m:M}{K:List AV->LS->Prop}{P:α->Bool}{f:α->AV}{V:LS}{items:List AV}{r:List α}(e:items=r.map g)
  (h:∀x∈r,∀(O:List AV)(C:List AV->LS->Prop),(P x=true->C (O++[f x]) V)->(P x=false->C O V)->T (E9 m i (g x)) V (λb Aa=>ifW b (u (E9 m i (g x)) Aa (λy z=>stays ok V z (C (O++[y]) z))) (stays ok V Aa (C O Aa))))
  (U:K ((r.filter P).map f) V):D7 i u T ok m K items [] V:=by
 rw[e];exact Dd h U
theorem IX{ok:Option Nat}{V:LS}{P:Prop}(h:P):stays ok V V P:=by
 cases ok with|none=>exact h|some i=>exact⟨rfl,h⟩
theorem EM{α:Type}{g:α->AV}{i:Nat}{u:M->LS->KV->Prop}{ok:Option Nat}{m:M}{K:List AV->LS->Prop}{f:α->AV}{V:LS}:∀{r:List α}{O:List AV},
  (∀x∈r,∀C:KV,C (f x) V->u (E9 m i (g x)) V C)->K (O++r.map f) V->D7 i u (GF []) ok m K (r.map g) O V
 |[],O,_,hK=>by rw[List.map_nil,aL]at hK;exact hK
 |x::r,O,h,hK=>h x (.head _) _ (IX (EM (λy T=>h y (.tail _ T)) (by rw[aM];exact hK)))
theorem B4{α:Type}{g:α->AV}{i:Nat}{u:M->LS->KV->Prop}{ok:Option Nat}{m:M}{K:List AV->LS->Prop}{f:α->AV}{V:LS}{items:List AV}{r:List α}(e:items=r.map g)
  (h:∀x∈r,∀C:KV,C (f x) V->u (E9 m i (g x)) V C) (U:K (r.map f) V):D7 i u (GF []) ok m K items [] V:=by
 rw[e];exact EM h U
noncomputable def ivs(a:Int):Nat->List Int
 |0=>[]
 |n+1=>a::ivs (a+1) n
theorem Az(a:Int):∀n,(ivs a n).length=n
 |0=>rfl
 |n+1=>by rw[ivs,aK,Az (a+1) n]
theorem ivs_mem{a x:Int}:∀{n:Nat},x∈ivs a n↔a<=x/\x<a+n
 |0=>by simp[ivs]
 |n+1=>by rw[ivs,ax,ivs_mem (n:=n)];exact⟨λy=>⟨y.elim (λO=>lin [] [x,a] (.f V1 V0) [.H (-1) V0 V1] rfl O) (λO=>lin [] [a,x] (.f V0 V1) [.f (.A V0 K1) V1] rfl O.1),y.elim (λO=>lin [n] [x,a] (.g V0 (.A V1 (.c (.A V0 K1)))) [.h V0 V1] rfl O) (λO=>lin [n] [x,a] (.g V0 (.A V1 (.c (.A V0 K1)))) [.g V0 (.A (.A V1 K1) (.c V0))] rfl O.2)⟩,λy=>bT λO=>(aH (λz=>O (.inl z))).elim (λT=>lin [] [a,x] .no [.f V0 V1,.g V1 V0] rfl y.1 T) (λT=>(aV.mp (λz=>O (.inr z))).elim (λY=>lin [] [a,x] .no [.g V0 V1,.k (.A V0 K1) V1] rfl T Y) (λY=>lin [n] [x,a] .no [.g V0 (.A V1 (.c (.A V0 K1))),.l V0 (.A (.A V1 K1) (.c V0))] rfl y.2 Y))⟩
theorem Di:∀(n:Nat)(a:Int),AW a 1 n=(ivs a n).map .int
 |0,_=>rfl
 |n+1,a=>by
  unfold AW;rw[List.range_succ_eq_map,bQ,aY];have y:=Di n (a+1);unfold AW at y;rw[ivs,bQ,<- y]
  congr 1
  .simp
  .apply cI
   intro i _;simp only[Function.comp_def]
   congr 1
   exact ai (lin [i] [a] (.f (.A V0 (.M 1 (.c (.A V0 K1)))) (.A (.A V0 K1) (.M 1 (.c V0)))) [] rfl) (lin [i] [a] (.f (.A (.A V0 K1) (.M 1 (.c V0))) (.A V0 (.M 1 (.c (.A V0 K1))))) [] rfl)
theorem Ev(a b:Int):aN a b 1=max (b - a) 0:=by
 unfold aN;rw[if_pos (show (1:Int) > 0 by decide)]
 by_cases q:a<b
 .rw[if_pos q,Int.ediv_one];exact ai (lin [] [b,a,max (b - a) 0] (.f (.A (.S (.S V0 V1) K1) K1) V2) [.f (.S V0 V1) V2] rfl (Int.le_max_left (b - a) (0))) ((Ct (b - a) (0)).elim (λz=>lin [] [max (b - a) 0,b,a] (.f V0 (.A (.S (.S V1 V2) K1) K1)) [.h V0 (.S V1 V2)] rfl z) (λz=>lin [] [a,b,max (b - a) 0] (.f V2 (.A (.S (.S V1 V0) K1) K1)) [.g V0 V1,.h V2 K0] rfl q z))
 .rw[if_neg q];exact ai (lin [] [max (b - a) 0] (.f K0 V0) [.f K0 V0] rfl (du (b - a) (0))) ((Ct (b - a) (0)).elim (λz=>lin [] [a,b,max (b - a) 0] (.f V2 K0) [.l V0 V1,.h V2 (.S V1 V0)] rfl q z) (λz=>lin [] [max (b - a) 0] (.f V0 K0) [.h V0 K0] rfl z))
theorem J9(a b:Int):AW a 1 (Bb a b 1)=(ivs a (b - a).toNat).map .int:=by
 have e:Bb a b 1=(b - a).toNat:=by
  unfold Bb;rw[Ev];exact ar ((HB (b - a)).elim (λz=>(Ct (b - a) (0)).elim (λO=>lin [(b - a).toNat,(max (b - a) 0).toNat] [b,a,max (b - a) 0] (.b V1 V0) [.f (.S V0 V1) (.c V0),.h (.c V1) V2,.h V2 (.S V0 V1)] rfl (aI (b - a)) (ao (lin [] [max (b - a) 0] (.f K0 V0) [.f K0 V0] rfl (du (b - a) (0)))) O) (λO=>lin [(max (b - a) 0).toNat,(b - a).toNat] [max (b - a) 0] (.b V0 V1) [.h (.c V0) V0,.h V0 K0] rfl (ao (lin [] [max (b - a) 0] (.f K0 V0) [.f K0 V0] rfl (du (b - a) (0)))) O)) (λz=>(Ct (b - a) (0)).elim (λO=>lin [(max (b - a) 0).toNat,(b - a).toNat] [max (b - a) 0,b,a] (.B 0 V0 V1) [.f K0 V0,.g (.S V1 V2) K0,.h V0 (.S V1 V2)] rfl (du (b - a) (0)) z.1 O) (λO=>lin [(max (b - a) 0).toNat,(b - a).toNat] [max (b - a) 0] (.b V0 V1) [.h (.c V0) V0,.h V0 K0] rfl (ao (lin [] [max (b - a) 0] (.f K0 V0) [.f K0 V0] rfl (du (b - a) (0)))) O))) ((HB (b - a)).elim (λz=>lin [(max (b - a) 0).toNat,(b - a).toNat] [max (b - a) 0,b,a] (.b V1 V0) [.f V0 (.c V0),.f (.S V1 V2) V0,.h (.c V1) (.S V1 V2)] rfl (aI (max (b - a) 0)) (Int.le_max_left (b - a) (0)) z.2) (λz=>lin [(b - a).toNat,(max (b - a) 0).toNat] [] (.b V0 V1) [.d V0 K0] rfl z.2))
 rw[e,Di]
theorem CB{a b:Int}(Y:-1000000<=a)(U:a<=1000000)(T:-1000000<=b)(y:b<=1000000):cu a b 1=true:=by
 have O:∀i:Int,-10000000<=i->i<=10000000->gm i=true:=λi Y U=>by
  unfold gm;rw[be,decide_eq_true_eq,decide_eq_true_eq];exact⟨dh (by decide) Y,eX U (by decide)⟩
 unfold cu;rw[Ev,O a (lin [] [a] (.f Cg V0) [.f Bm V0] rfl Y) (lin [] [a] (.f V0 B8) [.f V0 Ay] rfl U),O b (lin [] [b] (.f Cg V0) [.f Bm V0] rfl T) (lin [] [b] (.f V0 B8) [.f V0 Ay] rfl y),O 1 (by decide) (by decide),O _ (by exact lin [] [max (b - a) 0] (.f Cg V0) [.f K0 V0] rfl (du (b - a) (0))) (by exact(Ct (b - a) (0)).elim (λz=>lin [] [a,b,max (b - a) 0] (.f V2 B8) [.f Bm V0,.f V1 Ay,.h V2 (.S V1 V0)] rfl Y y z) (λz=>lin [] [max (b - a) 0] (.f V0 B8) [.h V0 K0] rfl z):max (b - a) 0<=10000000)]
 rw[if_pos (show (1:Int) > 0 by decide)]
 rw[O (b+(1 - 1)) (lin [] [b] (.f Cg (.A V0 (.S K1 K1))) [.f Bm V0] rfl T) (lin [] [b] (.f (.A V0 (.S K1 K1)) B8) [.f V0 Ay] rfl y),Bool.or_true]
 rfl
theorem J7(n:Nat):AW 0 1 (Bb 0 n 1)=(ivs 0 n).map .int:=by
 rw[J9,show ((n:Int) - 0).toNat=n by omega]
theorem mixed_ok{ex:List Nat}:FnOk ⟨true,ex,[],[],[]⟩ IB .val 0 0 EI:=by
 refine .pureF λu v h K U=>?_;refine X1pp (AD h) λp Y h=>?_;refine X1pp (AD h) λk z h=>?_;obtain rfl:=ae h;obtain rfl:=two?_out Y;rw[(int2?_out z).1,(int2?_out z).2];exact⟨rfl,IntMulOk.of_right (by decide +kernel),hW (by decide +kernel),by decide,U⟩
inductive Q3(avs:List AV)(V:LS)(K:KR):Prop
 |mk (l:List Int)(j:Nat)(c0:avs=[.nums l,.int j])(c1:l.length<=1000)(c2:V=[])(c3:K ⟨[],.val (.int (l.getD j 0))⟩ []):Q3 avs V K
noncomputable def fAt:FS:=specF λavs V K Z=>Q3 avs V K
theorem at_ok{ex:List Nat}:FnOk ⟨true,ex,[],[],[]⟩ ES .val 0 0 fAt:=by
 refine .specF λu V K X h=>?_;obtain⟨l,j,rfl,z,rfl,U⟩:=h;refine⟨rfl,At z,?_⟩
 by_cases y:j<l.length
 .refine ifT (by rw[decide_eq_true_eq];exact lin [j,l.length] [] (.g (.c V0) (.c V1)) [.c V0 V1] rfl y) ⟨⟨lin [j] [] (.f K0 (.c V0)) [] rfl,lin [l.length,j] [] (.g (.c V1) Ay) [.b V0 AG,.c V1 V0] rfl z y⟩,l.getD j 0,?_,U⟩
  rw[show ((j:Int)).toNat=j by omega,aA y,aB,aA y];rfl
 .refine ifF (by rw[decide_eq_false_iff_not];exact lin [j,l.length] [] (.l (.c V0) (.c V1)) [.j V0 V1] rfl y) ?_
  have:l.getD j 0=0:=by rw[aB,aX (by exact lin [j,l.length] [] (.b V1 V0) [.j V0 V1] rfl y)];rfl
  rw[this]at U;exact U
noncomputable abbrev AP(t:AV)(P:List Ag):AV:=.inst (FJ t (.dict (tt P)))
theorem E5(P:List Ag):((tt P).map λp=>sp p.1)=P.map sp:=by unfold tt;rw[aY];rfl
inductive QC(avs:List AV)(V:LS)(K:KR):Prop
 |mk (t:AV)(P:List Sp)(k:_)(b:_)(c0:avs=[AP t P,sp k])(c1:V=[])(c2:decide (k∈P)=b)(c3:K ⟨[],.val (.bool b)⟩ []):QC avs V K
noncomputable def fHas:FS:=specF λavs V K Z=>QC avs V K
theorem has_ok{ex:List Nat}:FnOk ⟨true,ex,[(31,fSpot)],[],[]⟩ c_Fhas .val 0 0 fHas:=by
 refine .specF λu V K X h=>?_;obtain⟨t,P,k,b,rfl,rfl,e,U⟩:=h;exact⟨rfl,_,rfl,rfl,.inl ⟨k,rfl,⟨rfl,rfl⟩,rfl,b,(B1 P k).trans e,U⟩⟩
inductive Q4(avs:List AV)(V:LS)(K:KR):Prop
 |mk (t:AV)(P:List Sp)(c0:avs=[AP t P])(c1:P.length<=1000)(c2:V=[])(c3:K ⟨[.list (P.map sp)],.new 0⟩ []):Q4 avs V K
noncomputable def Lx:FS:=specF λavs V K Z=>Q4 avs V K
theorem cells_ok{ex:List Nat}:FnOk ⟨true,ex,[],[],[]⟩ IG .new 0 5 Lx:=by
 refine .specF λu V K X h=>?_;obtain⟨t,P,rfl,U,rfl,z⟩:=h;exact⟨rfl,⟨rfl,rfl⟩,rfl,At (by rw[BW];exact U),λa=>⟨rfl,by rw[E5];exact z⟩⟩
end
section
noncomputable def EV:Ap:=⟨[950007799183325528180,1953625148292055806928486503,121,122,1079135020893454991476],1,[.assign (.v 1) (.mu 4 (.dict [] [])),.for_ (.tup [(.v 2),(.v 3)]) (.attr (.v 0) 12) [.for_ (.v 4) (.list [(.tup [(.v 2),(.v 3)]),(.tup [(.bin .Add (.v 2) (.int 1)),(.v 3)]),(.tup [(.v 2),(.bin .Add (.v 3) (.int 1))]),(.tup [(.bin .Add (.v 2) (.int 1)),(.bin .Add (.v 3) (.int 1))])]) [.setitem (.v 1) (.v 4) (.bool true)]],.ret (.mu 5 (.sorted (.call (.g 5) [(.v 1)]) (.g 32)))]⟩
noncomputable def IF:Ap:=⟨[950007799183325528180,1079135020893454991476,1005348031404454183012],1,[.ret (.mu 4 (.comp (.v 1) 1 (.meth (.v 0) 18 []) [(.call (.g 15) [(.comp (.cmp .In (.v 2) (.attr (.v 0) 12)) 2 (.call (.g 37) [(.v 1)]) [])])]))]⟩
noncomputable def ins(fs:List Ag)(k:Ag):List Ag:=if k∈fs then fs else fs++[k]
theorem ins_mem{fs:List Ag}{k x:Ag}:x∈ins fs k↔x∈fs\/x=k:=by
 unfold ins
 by_cases h:k∈fs
 .rw[if_pos h]
  exact⟨.inl,λq=>q.elim id λe=>e▸h⟩
 .rw[if_neg h,aZ,aR]
theorem KQ{fs:List Ag}{k:Ag}(n:fs.Nodup):(ins fs k).Nodup:=by
 unfold ins
 by_cases h:k∈fs
 .rw[if_pos h];exact n
 .rw[if_neg h,cC]
  exact⟨n,bJ.mpr ⟨bh,fu⟩,λa ha b z e=>h (by rw[<- aR.mp z,<- e];exact ha)⟩
theorem Iq{fs:List Ag}{k:Ag}(n:fs.Nodup):BH (tt fs) k (.bool true)=tt (ins fs k):=by
 unfold ins
 by_cases h:k∈fs
 .rw[if_pos h]
  unfold BH;rw[B1,decide_eq_true h,if_pos rfl];unfold tt;rw[aY];apply cI;intro x _
  by_cases e:x=k
  .simp[e]
  .simp[e]
 .rw[if_neg h];exact Hj h
noncomputable def Bs(k:Ag):List Ag:=[(k.1,k.2),(k.1+1,k.2),(k.1,k.2+1),(k.1+1,k.2+1)]
noncomputable def BU(P:List Ag):List Ag:=P.foldl (λfs c=>(Bs c).foldl ins fs) []
theorem BO{x:Ag}:∀{ks fs:List Ag},x∈ks.foldl ins fs↔x∈fs\/x∈ks
 |[],fs=>by simp
 |k::ks,fs=>by rw[cQ,BO,ins_mem,ax,or_assoc]
theorem Bg:∀{ks fs:List Ag},fs.Nodup->(ks.foldl ins fs).Nodup
 |[],_,n=>n
 |k::ks,fs,n=>by rw[cQ];exact Bg (KQ n)
theorem EK{x:Ag}:∀{P fs:List Ag},x∈P.foldl (λfs c=>(Bs c).foldl ins fs) fs↔x∈fs\/∃c∈P,x∈Bs c
 |[],fs=>by simp
 |p::P,fs=>by
  rw[cQ,EK,BO,or_assoc]
  simp
theorem Dq:∀{P fs:List Ag},fs.Nodup->(P.foldl (λfs c=>(Bs c).foldl ins fs) fs).Nodup
 |[],_,n=>n
 |p::P,fs,n=>by rw[cQ];exact Dq (Bg n)
theorem cornF_mem{x:Ag}{P:List Ag}:x∈BU P↔∃c∈P,x∈Bs c:=by unfold BU;rw[EK];simp
theorem D5(P:List Ag):(BU P).Nodup:=Dq fu
def lt2(a b:Ag):Prop:=a.2<b.2\/(a.2=b.2/\a.1<b.1)
theorem G2(a:Ag):¬lt2 a a:=by unfold lt2;exact λz=>z.elim (λO=>lin [] [a.snd] .no [.g V0 V0] rfl O) (λO=>lin [] [a.fst] .no [.g V0 V0] rfl O.2)
theorem lt2_asym{a b:Ag}(h:lt2 a b):¬lt2 b a:=by unfold lt2 at *;exact λz=>h.elim (λO=>z.elim (λT=>lin [] [a.snd,b.snd] .no [.g V0 V1,.g V1 V0] rfl O T) (λT=>lin [] [a.snd,b.snd] .no [.g V0 V1,.h V1 V0] rfl O T.1)) (λO=>z.elim (λT=>lin [] [a.snd,b.snd] .no [.h V0 V1,.g V1 V0] rfl O.1 T) (λT=>lin [] [a.fst,b.fst] .no [.g V0 V1,.g V1 V0] rfl O.2 T.2))
theorem Bx{l:List Ag}(h:l.Pairwise lt2):l.Nodup:=h.imp λq e=>by subst e;exact G2 _ q
theorem GD:∀{l k:List Ag},l.Pairwise lt2->k.Pairwise lt2->(∀x,x∈l↔x∈k)->l=k
 |[],[],_,_,_=>rfl
 |[],b::k,_,_,h=>by have:=(h b).mpr (.head _);exact nM this
 |a::l,[],_,_,h=>by have:=(h a).mp (.head _);exact nM this
 |a::l,b::k,hl,hk,h=>by
  rw[d9]at hl hk;have e:a=b:=by
   rcases ax.mp ((h a).mp (.head _))with q|q
   .exact q
   .rcases ax.mp ((h b).mpr (.head _))with z|z
    .exact z.symm
    .exact absurd (hk.1 a q) (lt2_asym (hl.1 b z))
  subst e
  congr 1
  refine GD hl.2 hk.2 λx=>⟨λu=>?_,λu=>?_⟩
  .rcases ax.mp ((h x).mp (.tail _ u))with q|q
   .clear hk h;subst q;exact absurd (hl.1 x u) (G2 _)
   .exact q
  .rcases ax.mp ((h x).mpr (.tail _ u))with q|q
   .clear hl h;subst q;exact absurd (hk.1 x u) (G2 _)
   .exact q
noncomputable def kyF(x:AV):Option Ag:=(spot? x).bind λk=>some (k.2,k.1)
theorem lt2_key{a b:Ag}(h:AM (Du kyF (sp a)) (Du kyF (sp b))=true):lt2 a b:=by
 exact pairLt_iff.mp (show AM (a.2,a.1) (b.2,b.1)=true from h)
theorem sortW.spots{mu:Option Nat}{fs C:List Ag}{V:LS}{K:KV}(n:fs.Nodup)(Y:C.Pairwise lt2)(O:∀x,x∈fs↔x∈C)(z:C.length<64)(h:frW mu (.list (C.map sp)) (.list (C.map sp)) V K):sortW kyF mu (fs.map sp) V K:=by
 refine⟨⟨λx u=>by refine X1pp (aW.mp u) λk Z Z0=>?_;subst Z0;rfl,?_,?_⟩,λT d=>?_⟩
 .rw[an,same_length n (Bx Y) O];exact z
 .rw[aY]
  refine cz.mpr (n.imp λq e=>q ?_);have e:((_,_):Ag)=(_,_):=e;exact bY (cP e).2 (cP e).1
 .refine Ao d λp d=>?_
  have:∃D:List Ag,T=D.map sp:=by
   refine⟨T.map λx=>let k:=Du kyF x;(k.2,k.1),?_⟩;rw[aY];refine(iq T).symm.trans (cI λx u=>?_);refine X1pp (aW.mp (p.mem_iff.mp u)) λk Z Z1=>?_;clear u;subst Z1
   rfl
  refine X1p this λD y=>?_;subst y;have U:D.Pairwise lt2:=(cz.mp d).imp lt2_key;have inj:∀a b:Ag,sp a=sp b->a=b:=λa b e=>by
   have e:=AV.tup.inj e;exact bY (AV.int.inj (eS e).1) (AV.int.inj (eS (eS e).2).1)
  have:D=C:=GD U Y λx=>by
   rw[<- O]
   constructor
   .intro u
    refine X1pp (aW.mp (p.mem_iff.mp (de u))) λk B e=>?_;rw[<- inj _ _ e];exact B
   .intro u
    obtain⟨k,B,e⟩:=aW.mp (p.mem_iff.mpr (de u));rw[<- inj _ _ e];exact B
  clear Y O z;subst this;exact h
structure Cor(P C:List Ag):Prop where
 up:C.Pairwise lt2
 mem:∀k,k∈C↔∃c∈P,k∈Bs c
 few:C.length<64
theorem Cor.fold{P C:List Ag}(h:Cor P C)(x:Ag):x∈BU P↔x∈C:=cornF_mem.trans (h.mem x).symm
theorem CM:∀{ks fs:List Ag},(ks.foldl ins fs).length<=fs.length+ks.length
 |[],fs=>ay _
 |k::ks,fs=>by
  rw[cQ];refine aw CM ?_
  have:(ins fs k).length<=fs.length+1:=by
   unfold ins
   split<;>simp
  rw[aK];exact lin [(ins fs k).length,fs.length,ks.length] [] (.b (.A V0 V2) (.A V1 (.A V2 K1))) [.b V0 (.A V1 K1)] rfl this
theorem Jv(d:List Ag)(c:Ag):BU (d++[c])=(Bs c).foldl ins (BU d):=by unfold BU;rw[gM];rfl
theorem EL:∀{P fs:List Ag},(P.foldl (λfs c=>(Bs c).foldl ins fs) fs).length<=fs.length+4 * P.length
 |[],fs=>ay _
 |p::P,fs=>by
  rw[cQ];refine aw EL ?_
  have:=CM (ks:=Bs p) (fs:=fs)
  have e:(Bs p).length=4:=rfl;rw[aK];exact lin [(il ins fs (Bs p)).length,fs.length,(Bs p).length,P.length] [] (.b (.A V0 (.M 4 V3)) (.A V1 (.M 4 (.A V3 K1)))) [.b V0 (.A V1 V2),.d V2 K4] rfl this e
theorem Gl(P:List Ag):(BU P).length<=4 * P.length:=by
 have:=EL (P:=P) (fs:=[])
 unfold BU;rw[c9]at this;exact lin [(il (λfs c=>il ins fs (Bs c)) [] P).length,P.length] [] (.b V0 (.M 4 V1)) [.b V0 (.A K0 (.M 4 V1))] rfl this
theorem iterW.tt{P:List Ag}{V:LS}{G:KG}(h:G (P.map sp) aa V):iterW true (.dict (tt P)) V G:=by
 rw[<- E5]at h;exact h
theorem listW.tt{mu:Option Nat}{P:List Ag}{V:LS}{K:KV}{a:Addr}{i:Nat}(e:slot V i=.at a (.dict (Internal.tt P)))(U:P.length<=1000)(h:frW mu (.list (P.map sp)) (.list (P.map sp)) V K):listW true mu (.loc a i) V K:=by
 rw[<- E5]at h;unfold listW;simp only[e];exact⟨trivial,At (by rw[BW];exact U),h⟩
inductive Q6(avs:List AV)(V:LS)(K:KR):Prop
 |mk (t:AV)(P:List Sp)(C:List Sp)(c0:avs=[AP t P])(c1:V=[])(c2:P.length<=100)(c3:Cor P C)(c4:K ⟨[.list (C.map sp)],.new 0⟩ []):Q6 avs V K
noncomputable def Ii:FS:=specF λavs V K X=>Q6 avs V K
theorem Ju{ex:List Nat}:FnOk ⟨true,ex,[],[],[(32,kyF)]⟩ EV .new 4 6 Ii:=by
 refine .specF λavs V K X h=>?_;obtain⟨t,P,C,rfl,rfl,hP,hC,hK⟩:=h;refine⟨rfl,λa=>⟨⟨rfl,rfl⟩,rfl,iterW.tt ?_⟩⟩;refine A7 (g:=sp) rfl (λd r m V=>d++r=P/\∃x y z,m=[some (AP t P),some (.loc a 4),x,y,z]/\V=[.no,.no,.no,.no,.at a (.dict (tt (BU d))),.no]) ?_ ?_ (d:=[]) ⟨rfl,_,_,_,rfl,rfl⟩
 .intro d m V u
  obtain⟨T,x,y,z,rfl,rfl⟩:=u;rw[aL]at T;subst T;show listW true aa (.loc a 4) [.no,.no,.no,.no,.at a (.dict (tt (BU d))),.no] _;refine listW.tt (P:=BU d) ?_ (by have:=Gl d;exact lin [d.length,(BU d).length] [] (.b V1 AG) [.B 4 V0 FL,.b V1 (.M 4 V0)] rfl hP this) ?_
  .rfl
  refine sortW.spots (D5 d) hC.up hC.fold hC.few λb=>⟨rfl,hK⟩
 .intro d k r m V u C' U
  obtain⟨T,x,y,z,rfl,rfl⟩:=u;have hl:d.length+r.length+1=P.length:=by rw[<- T];simp;exact ar (lin [d.length,r.length] [] (.b (.A (.A V0 V1) K1) (.A V0 (.A V1 K1))) [] rfl) (lin [d.length,r.length] [] (.b (.A V0 (.A V1 K1)) (.A (.A V0 V1) K1)) [] rfl)
  refine A7 (r:=Bs k) (g:=sp) rfl (λe s m V=>e++s=Bs k/\∃z,m=[some (AP t P),some (.loc a 4),some (.int k.1),some (.int k.2),z]/\V=[.no,.no,.no,.no,.at a (.dict (tt (e.foldl ins (BU d)))),.no]) ?_ ?_ (d:=[]) ⟨rfl,_,rfl,rfl⟩
  .intro e m V u
   obtain⟨O,z,rfl,rfl⟩:=u;rw[aL]at O;subst O;exact U _ _ ⟨by rw[aM];exact T,_,_,_,rfl,by rw[Jv]⟩
  .intro e c s m V u C2 Y
   obtain⟨O,z,rfl,rfl⟩:=u;have h4:e.length+s.length+1=4:=by
    have:=congrArg bX O
    rw[aE,aK]at this;have e4:(Bs k).length=4:=rfl;exact ar (lin [e.length,s.length,(Bs k).length] [] (.b (.A (.A V0 V1) K1) K4) [.d (.A V0 (.A V1 K1)) V2,.d V2 K4] rfl this e4) (lin [e.length,s.length,(Bs k).length] [] (.b K4 (.A (.A V0 V1) K1)) [.D (-1) (.A V0 (.A V1 K1)) V2,.D (-1) V2 K4] rfl this e4)
   refine⟨rfl,At ?_,?_⟩
   .rw[BW]
    have h1:=CM (ks:=e) (fs:=BU d);have h2:=Gl d;exact lin [P.length,d.length,r.length,e.length,s.length,(il ins (BU d) e).length,(BU d).length] [] (.b V5 AG) [.B 4 V0 FL,.D 4 (.A (.A V1 V2) K1) V0,.d (.A (.A V3 V4) K1) K4,.b V5 (.A V6 V3),.b V6 (.M 4 V1)] rfl hP hl h4 h1 h2
   .refine Y _ _ ⟨by rw[aM];exact O,_,rfl,?_⟩
    rw[gM];exact congrArg (λz=>([.no,.no,.no,.no,.at a (.dict z),.no]:LS)) (Iq (Bg (D5 d)))
end
section
noncomputable def innL(P C:List Ag):List Ag:=C.filter λk=>(Bt k).all λc=>decide (c∈P)
inductive QD(avs:List AV)(V:LS)(K:KR):Prop
 |mk (t:AV)(P:List Sp)(C:List Sp)(c0:avs=[AP t P])(c1:V=[])(c2:P.length<=100)(c3:Cor P C)(c4:K ⟨[.list ((innL P C).map sp)],.new 0⟩ []):QD avs V K
noncomputable def fInner:FS:=specF λavs V K X=>QD avs V K
theorem inner_ok{ex:List Nat}:FnOk ⟨true,ex,[(37,Ie)],[(18,Ii)],[]⟩ IF .new 2 5 fInner:=by
 refine .specF λy V K X h=>?_;obtain⟨t,P,C,rfl,rfl,d,B,U⟩:=h;have u:=B.few;refine⟨rfl,⟨rfl,rfl⟩,⟨rfl,rfl⟩,t,P,C,rfl,rfl,d,B,At (by rw[an];exact lin [C.length] [] (.b V0 AG) [.c V0 K64] rfl u),?_⟩
 refine B3 (r:=C) (g:=sp) (f:=sp) (P:=λk=>(Bt k).all λc=>decide (c∈P)) rfl (λx T O C' Y z=>?_) λa=>⟨rfl,U⟩;refine⟨At (bf rfl),?_⟩;refine B4 (r:=Bt x) (g:=sp) (f:=λc=>.bool (decide (c∈P))) rfl (λc hc C2 h=>⟨⟨rfl,rfl⟩,rfl,_,B1 P c,h⟩) ?_;refine⟨(Bt x).map λc=>decide (c∈P),by rw[aY];rfl,?_⟩
 rw[List.all_map];exact ifB Y z
end
section
abbrev exC:Nat:=26
abbrev exP:Nat:=7
noncomputable def exs:List Nat:=[17,18,19,20,21,22,23,24,25,26,27]
noncomputable def marksOf(c:Nat):List AV:=[19,20,21,22,23,24,25,26,27,18,17].map λj=>.bool (xsub c j)
noncomputable def AV.exc?:AV->Option Nat
 |.exc c=>some c
 |_=>aa
theorem AV.exc?_out{a:AV}{x:Nat}(h:a.exc?=some x):a=.exc x:=by
 cases a with
 |exc y=>obtain rfl:=ae h;rfl
 |_=>exact(Am rfl h).elim
noncomputable def Lv(c:Nat):FS:=pureF λavs=>(one? avs).bind λa=>a.exc?.bind λd=>match bV d c with
 |true=>some (.list (marksOf c))
 |false=>aa
theorem marks_ok:FnOk ⟨false,exs,[],[],[]⟩ IC .val 1 0 (Lv exC):=by
 refine .pureF λu v h K U=>?_;refine X1pp (AD h) λa Y g=>?_;refine X1pp (AD g) λd z T=>?_;obtain rfl:=one?_out Y;rw[AV.exc?_out z]
 cases q:bV d exC with
 |false=>rw[q]at T;exact nS T
 |true =>
  rw[q]at T;obtain rfl:=ae T;rw[bt q];exact⟨rfl,At (bf rfl),At (bf rfl),At (bf rfl),U⟩
noncomputable def Lz(c p:Nat):FS:=pureF λavs=>(two? avs).bind λq=>q.1.exc?.bind λd=>q.2.int?.bind λi=>match bV d c && (i == Int.ofNat p)with
 |true=>some (.bool true)
 |false=>aa
theorem alone_ok:FnOk ⟨false,exs,[(78,Lv exC)],[],[]⟩ IE .val 1 0 (Lz exC exP):=by
 refine .pureF λavs v h K U=>?_;refine X1pp (AD h) λp O g=>?_;refine X1pp (AD g) λd z u=>?_;refine X1pp (AD u) λi Y T=>?_;obtain rfl:=two?_out O;rw[AV.exc?_out z,AV.int?_out Y]
 cases q:bV d exC && (i == Int.ofNat exP)with
 |false=>rw[q]at T;exact nS T
 |true =>
  rw[q]at T;obtain rfl:=ae T;refine Ao (aG.mp q) λy B=>?_;rw[bt y,eq_of_beq B];exact⟨rfl,rfl,At (bf rfl),true,.py ⟨_,_,rfl,rfl,rfl,rfl,rfl⟩,U⟩
end
section
open PySem PySem.Builtin PySem.Builtin.Str
noncomputable def Bo(s sub:Str)(hi i:Nat)(r:Array Nat×Nat):Id (ForInStep (Array Nat×Nat)) :=
 if (decide (r.1.size<1) && decide (r.2<=i) && decide (i+sub.length<=hi) && subAt s sub i)=true then pure (.yield (r.1.push i,i+sub.length)) else pure (.yield (r.1,r.2))
theorem Dy(s sub:Str)(hi:Nat):∀(L:List Nat)(f:Array Nat)(d:Nat),(f=#[]->d=0) ->
  (Id.run (forIn (m:=Id) L ((f,d):Array Nat×Nat) (Bo s sub hi))).1.isEmpty=(f.isEmpty && !(L.any λi=>decide (i+sub.length<=hi) && subAt s sub i))
 |[],f,d,h=>by simp
 |i::L,f,d,h=>by
  rw[ej]
  by_cases q:f=#[]
  .obtain rfl:=q
   obtain rfl:=h rfl
   by_cases p:(decide (i+sub.length<=hi) && subAt s sub i)=true
   .have e:Bo s sub hi i (#[],0)=pure (.yield (#[i],i+sub.length)):=by
     unfold Bo;rw[if_pos (by simp;simpa using p)];rfl
    rw[e];show (Id.run (forIn (m:=Id) L ((#[i],i+sub.length):Array Nat×Nat) (Bo s sub hi))).1.isEmpty=_;rw[Dy s sub hi L _ _ (λz=>by simp at z)]
    rw[fR,p];simp
   .have e:Bo s sub hi i (#[],0)=pure (.yield (#[],0)):=by
     unfold Bo;rw[if_neg (by simp;simpa using p)]
    rw[e];show (Id.run (forIn (m:=Id) L ((#[],0):Array Nat×Nat) (Bo s sub hi))).1.isEmpty=_;rw[Dy s sub hi L _ _ (λZ=>rfl)];have Y:(decide (i+sub.length<=hi) && subAt s sub i)=false:=by simpa using p
    rw[fR,Y,Bool.false_or]
  .have e:Bo s sub hi i (f,d)=pure (.yield (f,d)):=by
    unfold Bo
    have:¬f.size<1:=λz=>q (Array.eq_empty_of_size_eq_zero (ar (lin [f.size] [] (.b V0 K0) [.c V0 K1] rfl z) (lin [f.size] [] (.b K0 V0) [] rfl)))
    rw[if_neg (by simp[this])]
   rw[e];show (Id.run (forIn (m:=Id) L ((f,d):Array Nat×Nat) (Bo s sub hi))).1.isEmpty=_;rw[Dy s sub hi L _ _ h]
   have:f.isEmpty=false:=by
    cases z:f.isEmpty with|false=>rfl|true=>exact absurd (Array.isEmpty_iff.mp z) q
   simp[this]
theorem D4(a:Array Nat)(i:Nat)(h:i<a.size):a.extract i (i+1)=#[a[i]]:=by
 apply Array.ext
 .simp;exact ar ((sub_sp (ez (i+1) a.size) i).elim (λz=>lin [ez (i+1) a.size,i,ez (i+1) a.size - i] [] (.b V2 K1) [.b V0 (.A V1 K1),.d (.A V2 V1) V0] rfl (gf (i+1) a.size) z.2) (λz=>lin [ez (i+1) a.size - i] [] (.b V0 K1) [.d V0 K0] rfl z.2)) ((sub_sp (ez (i+1) a.size) i).elim (λz=>(GV (i+1) a.size).elim (λO=>lin [ez (i+1) a.size,i,ez (i+1) a.size - i] [] (.b K1 V2) [.b V0 (.A V1 V2),.D (-1) V0 (.A V1 K1)] rfl (aq.mp (ay ((ez (i+1) a.size) - (i)))) O) (λO=>lin [i,a.size,ez (i+1) a.size,ez (i+1) a.size - i] [] (.b K1 V3) [.c V0 V1,.b V2 (.A V0 V3),.D (-1) V2 V1] rfl h (aq.mp (ay ((ez (i+1) a.size) - (i)))) O)) (λz=>(GV (i+1) a.size).elim (λO=>lin [ez (i+1) a.size,i,ez (i+1) a.size - i] [] (.B 0 K1 V2) [.c V0 V1,.D (-1) V0 (.A V1 K1)] rfl z.1 O) (λO=>lin [i,a.size,ez (i+1) a.size,ez (i+1) a.size - i] [] (.B 0 K1 V3) [.c V0 V1,.c V2 V0,.D (-1) V2 V1] rfl h z.1 O)))
 .intro j y Y
  have:j=0:=by simp at Y;exact ar (lin [j] [] (.b V0 K0) [.d V0 K0] rfl Y) (lin [j] [] (.b K0 V0) [] rfl)
  subst this
  simp
theorem Fz(x:Str):eI x "#"=x.cps.any (· == 35):=by
 have e:eI x "#"=!(Id.run (forIn (m:=Id) [0:x.length+1] ((#[],0):Array Nat×Nat) (Bo x "#" x.length))).1.isEmpty:=by
  unfold eI occurrences;show (!(Id.run (forIn (m:=Id) [0:x.length+1] ((#[],0):Array Nat×Nat) (Bo x "#" x.length))).1.toList.isEmpty)=_;rw[Array.isEmpty_toList]
 rw[e,Std.Legacy.Range.forIn_eq_forIn_range',Dy x "#" x.length _ _ _ (λZ=>rfl)];simp only[Array.isEmpty_empty,Bool.true_and,Bool.not_not];rw[Bool.eq_iff_iff,dQ,Array.any_eq_true];have Y:("#":Str).length=1:=by decide
 have z:("#":Str).cps=#[35]:=by decide
 constructor
 .intro u
  obtain⟨i,hi,h⟩:=u;simp only[Y,be,decide_eq_true_eq,subAt,z,beq_iff_eq]at h;refine Ao h λd y=>?_;have lt:i<x.cps.size:=d;refine⟨i,lt,?_⟩;rw[D4 _ _ lt]at y;simp at y ⊢;exact y
 .intro u
  obtain⟨i,hi,h⟩:=u;refine⟨i,by simp[Str.length];exact lin [i,x.cps.size] [] (.c V0 (.A V1 K1)) [.c V0 V1] rfl hi,?_⟩
  simp only[Y,be,decide_eq_true_eq,subAt,z,beq_iff_eq];refine⟨hi,?_⟩;rw[D4 _ _ hi];simp at h ⊢;exact h
end
section
open PySem PySem.Builtin PySem.Builtin.Str
theorem EZ(x y:Str):(x++y).cps.toList=x.cps.toList++y.cps.toList:=by
 show (Str.append x y).cps.toList=_;unfold Str.append
 simp
theorem app_len(x y:Str):(x++y).length=x.length+y.length:=by
 show (Str.append x y).cps.size=x.cps.size+y.cps.size;unfold Str.append
 simp
theorem DZ(b:Array Nat):∀(n:Nat)(a:Array Nat),((aP n b).foldl (·++·) a).toList=a.toList++(aP n b.toList).flatten
 |0,a=>by simp
 |n+1,a=>by
  rw[List.replicate_succ,cQ,DZ b n];simp[List.replicate_succ]
set_option tactic.hygienic true in
theorem Jh(x:Str)(n:Int):(d3 x n).cps.toList=(aP n.toNat x.cps.toList).flatten:=by
 unfold d3
 split
 .rw[show n.toNat=0 by omega];rfl
 .split
  .rename_i q
   rw[eh,beq_iff_eq,beq_iff_eq]at q
   rcases q with rfl|q
   .simp
   .have:x.cps.toList=[]:=by
     have h:x.cps.size=0:=q;rw[<- List.length_eq_zero_iff,gg];exact h
    rw[this];simp
  .rw[DZ];simp
theorem Fj(c:Nat)(n:Int):(d3 ⟨#[c]⟩ n).cps.toList=aP n.toNat c:=by
 rw[Jh];simp[List.flatten_replicate_singleton]
theorem mul_ok{x:Str}{n:Int}(u:x.length<=100)(Y:n<=100)(B:-100<=n):MulOk x n:=by
 refine⟨?_,λz Z=>?_,λz Z=>?_⟩
 .simp;exact⟨lin [] [n] (.f B6 V0) [.f Km100 V0] rfl B,lin [] [n] (.g V0 Ci) [.f V0 FL] rfl Y⟩
 .have:(2 ^ 63 - 1) / n >= 92233720368547758:=by
   have:(92233720368547758:Int)<=(2 ^ 63 - 1) / n:=by
    rw[Int.le_ediv_iff_mul_le (by exact lin [] [n] (.g K0 V0) [.l V0 K1] rfl z)]
    have:92233720368547758 * n<=92233720368547758 * 100:=Int.mul_le_mul_of_nonneg_left Y (by decide)
    omega
   exact this
  exact lin [x.length] [(2 ^ 63 - 1) / n] (.l V0 (.c V0)) [.b V0 FL,.f C3 V0] rfl u this
 .unfold tooLong
  have:x.length * n.toNat<=100 * 100:=dT u (lin [n.toNat] [n] (.b V0 FL) [.f V0 FL,.h (.c V0) V0] rfl Y (ao (lin [] [n] (.f K0 V0) [.l V0 K1] rfl z)))
  simp[gT];exact lin [x.length * n.toNat] [] (.b V0 A6) [.b V0 (.M 100 FL)] rfl this
theorem F8(O:List Str):(Txt.join "" O).cps.toList=(O.map (·.cps.toList)).flatten:=by
 have u:("":Str).cps=#[]:=by decide +kernel
 have key:∀(l:List Str)(a:Array Nat),(l.foldl (λacc p=>acc++("":Str).cps++p.cps) a).toList=a.toList++(l.map (·.cps.toList)).flatten:=by
  intro l
  induction l with|nil=>intro a;simp|cons p l Y=>intro a;rw[cQ,Y,u];simp
 unfold Txt.join glued
 cases O with|nil=>rfl|cons y r=>simp only[List.headD_cons,List.drop_one,List.tail_cons];rw[key];simp
end
section
noncomputable def sgn:Bool->Nat
 |true=>35
 |false=>46
noncomputable def Cb(r:List Bool):Str:=⟨(r.map sgn).toArray⟩
abbrev Gr:=List (List Bool)
noncomputable def AA(G:Gr):List AV:=G.map λr=>.str (Cb r)
structure Grid(G:Gr)(w:Nat):Prop where
 h1:1<=G.length
 h6:G.length<=6
 w1:1<=w
 w6:w<=6
 len:∀r∈G,r.length=w
theorem AY(r:List Bool):(Cb r).length=r.length:=by
 show (Cb r).cps.size=_;unfold Cb;simp
theorem Eu(r:List Bool):(Cb r).cps.all (·<128)=true:=by
 rw[Array.all_eq_true_iff_forall_mem];intro c d
 have:c∈r.map sgn:=by unfold Cb at d;simpa using d
 refine X1pr c (aW.mp this) λb Z=>?_
 cases b<;>rfl
theorem J5(r:List Bool):eI (Cb r) "#"=r.any id:=by
 rw[Fz]
 have:(Cb r).cps.any (· == 35)=(r.map sgn).any (· == 35):=by unfold Cb;simp
 rw[this,List.any_map]
 congr 1
 funext b
 cases b<;>rfl
noncomputable def Ck(y x:Int):List Bool->List Sp
 |[]=>[]
 |b::r=>match b with
  |true=>(x,y)::Ck y (x+1) r
  |false=>Ck y (x+1) r
noncomputable def BF(y:Int):Gr->List Sp
 |[]=>[]
 |r::G=>Ck y 0 r++BF (y+1) G
noncomputable def Ae(G:Gr):List Sp:=BF 0 G
theorem Fa{y:Int}:∀{r:List Bool}{x:Int},(Ck y x r).length<=r.length
 |[],_=>ay _
 |b::r,x=>by
  have:=Fa (y:=y) (r:=r) (x:=x+1)
  cases b
  .show (Ck y (x+1) r).length<=r.length+1;exact lin [(Ck y (x+1) r).length,r.length] [] (.b V0 (.A V1 K1)) [.b V0 V1] rfl this
  .show (Ck y (x+1) r).length+1<=r.length+1;exact lin [(Ck y (x+1) r).length,r.length] [] (.b (.A V0 K1) (.A V1 K1)) [.b V0 V1] rfl this
theorem Cf{w:Nat}:∀{G:Gr}{y:Int},(∀r∈G,r.length=w)->(BF y G).length<=G.length * w
 |[],_,_=>di _
 |r::G,y,h=>by
  rw[BF,aE,aK,Nat.succ_mul];have T:=Fa (y:=y) (r:=r) (x:=0);have z:=Cf (y:=y+1) λs hs=>h s (.tail _ hs);have Y:=h r (.head _);exact lin [(Ck y 0 r).length,r.length,(BF (y+1) G).length,G.length * w,w] [] (.b (.A V0 V2) (.A V3 V4)) [.b V0 V1,.b V2 V3,.d V1 V4] rfl T z Y
theorem Grid.cells{G:Gr}{w:Nat}(g:Grid G w):(Ae G).length<=36:=by
 have Y:=Cf (y:=0) g.len;have z:G.length * w<=6 * 6:=dT g.h6 g.w6;unfold Ae;exact lin [(BF 0 G).length,bX G * w] [] (.b V0 K36) [.b V0 V1,.b V1 (.M 6 K6)] rfl Y z
def bit(r:List Bool)(x:Int):Prop:=0<=x/\r[x.toNat]?=some true
theorem rowC_mem{y:Int}{k:Sp}:∀{r:List Bool}{x:Int},k∈Ck y x r↔k.2=y/\bit r (k.1 - x)
 |[],x=>by
  constructor
  .intro h;cases h
  .rintro ⟨_,_,h⟩;exact nS h
 |b::r,x=>by
  have T:=rowC_mem (y:=y) (k:=k) (r:=r) (x:=x+1);have key:k.2=y/\bit (b::r) (k.1 - x)↔(k=(x,y)/\b=true)\/(k.2=y/\bit r (k.1 - (x+1))):=by
   unfold bit
   by_cases e:k.1=x
   .have O:(k.1 - x).toNat=0:=by exact ar (lin [(k.fst - x).toNat] [k.fst,x] (.b V0 K0) [.h V0 V1,.h (.c V0) (.S V0 V1)] rfl e (ao (lin [] [k.fst,x] (.f K0 (.S V0 V1)) [.H (-1) V0 V1] rfl e))) (lin [(k.fst - x).toNat] [] (.b K0 V0) [] rfl)
    rw[O]
    constructor
    .intro u
     refine Bl u λY Z z=>?_;exact .inl ⟨bY e Y,ae z⟩
    .rintro (⟨Y,z⟩|⟨_,z,_⟩)
     .clear T e O;subst Y;subst z;exact⟨rfl,lin [] [(x,y).fst] (.f K0 (.S V0 V0)) [] rfl,rfl⟩
     .omega
   .constructor
    .intro u
     refine Bl u λY z U=>?_;refine .inr ⟨Y,(aH e).elim (λd=>lin [] [k.fst,x] (.F 0 K0 (.S V0 (.A V1 K1))) [.f K0 (.S V0 V1),.g V0 V1] rfl z d) (λd=>lin [] [x,k.fst] (.f K0 (.S V1 (.A V0 K1))) [.g V0 V1] rfl d),?_⟩;rw[show (k.1 - x).toNat=(k.1 - (x+1)).toNat+1 by exact ar (lin [(k.fst - (x+1)).toNat,(k.fst - x).toNat] [k.fst,x] (.b V1 (.A V0 K1)) [.f (.S V0 (.A V1 K1)) (.c V0),.h (.c V1) (.S V0 V1)] rfl (aI (k.fst - (x+1))) (ao (lin [] [k.fst,x] (.f K0 (.S V0 V1)) [.f K0 (.S V0 V1)] rfl z))) ((aH e).elim (λd=>lin [(k.fst - (x+1)).toNat,(k.fst - x).toNat] [k.fst,x] (.B 0 (.A V0 K1) V1) [.f K0 (.S V0 V1),.g V0 V1] rfl z d) (λd=>lin [(k.fst - x).toNat,(k.fst - (x+1)).toNat] [k.fst,x] (.b (.A V1 K1) V0) [.f (.S V0 V1) (.c V0),.h (.c V1) (.S V0 (.A V1 K1))] rfl (aI (k.fst - x)) (ao (lin [] [x,k.fst] (.f K0 (.S V1 (.A V0 K1))) [.g V0 V1] rfl d))))]at U
     exact U
    .rintro (⟨Y,_⟩|⟨Y,z,U⟩)
     .exact absurd (congrArg dU Y) e
     .refine⟨Y,lin [] [k.fst,x] (.f K0 (.S V0 V1)) [.f K0 (.S V0 (.A V1 K1))] rfl z,?_⟩
      rw[show (k.1 - x).toNat=(k.1 - (x+1)).toNat+1 by exact ar (lin [(k.fst - (x+1)).toNat,(k.fst - x).toNat] [k.fst,x] (.b V1 (.A V0 K1)) [.f (.S V0 (.A V1 K1)) (.c V0),.h (.c V1) (.S V0 V1)] rfl (aI (k.fst - (x+1))) (ao (lin [] [k.fst,x] (.f K0 (.S V0 V1)) [.f K0 (.S V0 (.A V1 K1))] rfl z))) (lin [(k.fst - x).toNat,(k.fst - (x+1)).toNat] [k.fst,x] (.b (.A V1 K1) V0) [.f (.S V0 V1) (.c V0),.h (.c V1) (.S V0 (.A V1 K1))] rfl (aI (k.fst - x)) (ao (lin [] [k.fst,x] (.f K0 (.S V0 (.A V1 K1))) [.f K0 (.S V0 (.A V1 K1))] rfl z)))]
      exact U
  rw[key,<- T]
  cases b
  .show k∈Ck y (x+1) r↔_
   simp
  .show k∈(x,y)::Ck y (x+1) r↔_
   rw[ax];simp
def has(G:Gr)(k:Sp):Prop:=0<=k.2/\∃r,G[k.2.toNat]?=some r/\bit r k.1
theorem cellsF_mem{k:Sp}:∀{G:Gr}{y:Int},k∈BF y G↔has G (k.1,k.2 - y)
 |[],y=>by
  constructor
  .intro h;cases h
  .rintro ⟨_,r,h,_⟩;exact nS h
 |r::G,y=>by
  rw[BF,aZ,rowC_mem,cellsF_mem (G:=G)];unfold has;dsimp only;rw[im]
  by_cases e:k.2=y
  .have U:(k.2 - y).toNat=0:=by exact ar (lin [(k.snd - y).toNat] [k.snd,y] (.b V0 K0) [.h V0 V1,.h (.c V0) (.S V0 V1)] rfl e (ao (lin [] [k.snd,y] (.f K0 (.S V0 V1)) [.H (-1) V0 V1] rfl e))) (lin [(k.snd - y).toNat] [] (.b K0 V0) [] rfl)
   rw[U]
   constructor
   .rintro (⟨_,h⟩|⟨h,_⟩)
    .exact⟨lin [] [k.snd,y] (.f K0 (.S V0 V1)) [.H (-1) V0 V1] rfl e,r,rfl,h⟩
    .omega
   .intro u
    refine Ao u λZ Z0=>?_;refine X1pp Z0 λd Y T=>?_;exact .inl ⟨e,by rw[ae Y];exact T⟩
  .constructor
   .rintro (⟨h,_⟩|⟨h,d,Y,T⟩)
    .exact absurd h e
    .refine⟨lin [] [k.snd,y] (.f K0 (.S V0 V1)) [.f K0 (.S V0 (.A V1 K1))] rfl h,d,?_,T⟩
     rw[show (k.2 - y).toNat=(k.2 - (y+1)).toNat+1 by exact ar (lin [(k.snd - (y+1)).toNat,(k.snd - y).toNat] [k.snd,y] (.b V1 (.A V0 K1)) [.f (.S V0 (.A V1 K1)) (.c V0),.h (.c V1) (.S V0 V1)] rfl (aI (k.snd - (y+1))) (ao (lin [] [k.snd,y] (.f K0 (.S V0 V1)) [.f K0 (.S V0 (.A V1 K1))] rfl h))) (lin [(k.snd - y).toNat,(k.snd - (y+1)).toNat] [k.snd,y] (.b (.A V1 K1) V0) [.f (.S V0 V1) (.c V0),.h (.c V1) (.S V0 (.A V1 K1))] rfl (aI (k.snd - y)) (ao (lin [] [k.snd,y] (.f K0 (.S V0 (.A V1 K1))) [.f K0 (.S V0 (.A V1 K1))] rfl h)))];exact Y
   .intro u
    refine Ao u λh O=>?_;refine X1pp O λd Y T=>?_;refine .inr ⟨(aH e).elim (λz=>lin [] [k.snd,y] (.F 0 K0 (.S V0 (.A V1 K1))) [.f K0 (.S V0 V1),.g V0 V1] rfl h z) (λz=>lin [] [y,k.snd] (.f K0 (.S V1 (.A V0 K1))) [.g V0 V1] rfl z),d,?_,T⟩;rw[show (k.2 - y).toNat=(k.2 - (y+1)).toNat+1 by exact ar (lin [(k.snd - (y+1)).toNat,(k.snd - y).toNat] [k.snd,y] (.b V1 (.A V0 K1)) [.f (.S V0 (.A V1 K1)) (.c V0),.h (.c V1) (.S V0 V1)] rfl (aI (k.snd - (y+1))) (ao (lin [] [k.snd,y] (.f K0 (.S V0 V1)) [.f K0 (.S V0 V1)] rfl h))) ((aH e).elim (λz=>lin [(k.snd - (y+1)).toNat,(k.snd - y).toNat] [k.snd,y] (.B 0 (.A V0 K1) V1) [.f K0 (.S V0 V1),.g V0 V1] rfl h z) (λz=>lin [(k.snd - y).toNat,(k.snd - (y+1)).toNat] [k.snd,y] (.b (.A V1 K1) V0) [.f (.S V0 V1) (.c V0),.h (.c V1) (.S V0 (.A V1 K1))] rfl (aI (k.snd - y)) (ao (lin [] [y,k.snd] (.f K0 (.S V1 (.A V0 K1))) [.g V0 V1] rfl z))))]at Y;exact Y
theorem cellsOf_mem{G:Gr}{k:Sp}:k∈Ae G↔has G k:=by
 unfold Ae;rw[cellsF_mem,im]
theorem Grid.in{G:Gr}{w:Nat}(g:Grid G w){k:Sp}(h:k∈Ae G):0<=k.1/\k.1<w/\0<=k.2/\k.2<G.length:=by
 refine Ao (cellsOf_mem.mp h) λu O=>?_;refine X1ppp O λr y Y B=>?_;have d:k.2.toNat<G.length:=by
  rcases bL k.2.toNat G.length with z|z
  .exact z
  .rw[aX z]at y;exact nS y
 have T:k.1.toNat<r.length:=by
  rcases bL k.1.toNat r.length with z|z
  .exact z
  .rw[aX z]at B;exact nS B
 rw[g.len r (ag y)]at T;exact⟨lin [] [k.fst] (.f K0 V0) [.f K0 V0] rfl Y,⟨lin [k.fst.toNat,w] [k.fst] (.g V0 (.c V1)) [.c V0 V1,.f V0 (.c V0)] rfl T (aI k.fst),⟨lin [] [k.snd] (.f K0 V0) [.f K0 V0] rfl u,lin [k.snd.toNat,bX G] [k.snd] (.g V0 (.c V1)) [.c V0 V1,.f V0 (.c V0)] rfl d (aI k.snd)⟩⟩⟩
end
section
noncomputable def Gs:Ap:=⟨[1069911684040970207347,527765816213619,1023794753487939567732],1,[.ite (.or [(.not (.call (.g 1) [(.v 0),(.g 5)])),(.not (.cmp2 .LtE .LtE (.int 1) (.call (.g 0) [(.v 0)]) (.g 28)))]) [.ret (.bool false)] [],.for_ (.v 1) (.v 0) [.ite (.or [(.not (.call (.g 1) [(.v 1),(.g 6)])),(.not (.cmp2 .LtE .LtE (.int 1) (.call (.g 0) [(.v 1)]) (.g 28)))]) [.ret (.bool false)] []],.for_ (.v 1) (.v 0) [.ite (.or [(.cmp .NotEq (.call (.g 0) [(.v 1)]) (.call (.g 0) [(.sub (.v 0) (.int 0))])),(.not (.call (.g 15) [(.comp (.cmp .In (.v 2) (.tup [(.str "#"),(.str ".")])) 2 (.v 1) [])]))]) [.ret (.bool false)] []],.ret (.call (.g 16) [(.comp (.cmp .In (.str "#") (.v 1)) 1 (.v 0) [])])]⟩
noncomputable def c_Finit:Ap:=⟨[950007799183325528180,1069911684040970207347,122,527765816213619,121,1023794753487939567732,4097048886990981419611689351905378],2,[.ite (.not (.call (.g 36) [(.v 1)])) [.raise (.call (.g 19) [(.str "no rows of a floor")])] [],.setattr (.v 0) 11 (.call (.g 5) [(.v 1)]),.setattr (.v 0) 12 (.mu 2 (.dict [] [])),.for_ (.tup [(.v 2),(.v 3)]) (.call (.g 9) [(.v 1)]) [.for_ (.tup [(.v 4),(.v 5)]) (.call (.g 9) [(.v 3)]) [.ite (.cmp .Eq (.v 5) (.str "#")) [.setitem (.attr (.v 0) 12) (.tup [(.v 4),(.v 2)]) (.bool true)] []]],.ite (.cmp .NotEq (.call (.g 0) [(.call (.g 35) [(.sub (.call (.g 5) [(.attr (.v 0) 12)]) (.int 0)),(.attr (.v 0) 12)])]) (.call (.g 0) [(.attr (.v 0) 12)])) [.raise (.call (.g 20) [(.str "the cells don't hang together")])] [],.assign (.v 6) (.meth (.v 0) 13 []),.ite (.cmp .NotEq (.call (.g 0) [(.call (.g 35) [(.tup [(.neg (.int 1)),(.neg (.int 1))]),(.v 6)])]) (.call (.g 0) [(.v 6)])) [.raise (.call (.g 21) [(.str "the floor has a hole")])] []]⟩
noncomputable def Gu:Ap:=⟨[950007799183325528180,1953625148292055806928486503,122,121],1,[.assign (.v 1) (.mu 4 (.dict [] [])),.for_ (.v 2) (.call (.g 8) [(.neg (.int 1)),(.bin .Add (.call (.g 0) [(.attr (.v 0) 11)]) (.int 1))]) [.for_ (.v 3) (.call (.g 8) [(.neg (.int 1)),(.bin .Add (.call (.g 0) [(.sub (.attr (.v 0) 11) (.int 0))]) (.int 1))]) [.ite (.cmp .NotIn (.tup [(.v 3),(.v 2)]) (.attr (.v 0) 12)) [.setitem (.v 1) (.tup [(.v 3),(.v 2)]) (.bool true)] []]],.ret (.v 1)]⟩
noncomputable def Co:Ap:=⟨[43400774030903411559313583009360306713791419551580256,21408724918500336958217017566162088846755364960,4908344980994869975741078519677024],1,[.ret (.comp (.meth (.str "") 8 [(.comp (.sub (.v 1) (.v 2)) 1 (.v 0) [])]) 2 (.call (.g 8) [(.call (.g 0) [(.sub (.v 0) (.int 0))])]) [])]⟩
noncomputable def EQ:Ap:=⟨[40781761134340005352671968699721311000275178949181536,38162751270679647559043826811439900761170624565477472,41530048723813142729217903034956150661808146096324704,82387004051865245371686842551052123159162781809304687083616,43400774030903411559313583009360306713791419551580256,21408724918500093569301773746117001479739932768,39285182565683693105776214804091086361059948067029088,4948909800202173316588973022249056,189233104125022861345122375117010683388186817415792500651818221664,38162752697926829841696715377274495193841980311339104,91802656280800312142504332077630959006909194449134567817312,87094826237817180438285548473054639082591576189006493253728],3,[.assign (.v 3) (.bin .Add (.int 2) (.bin .Mod (.v 0) (.int 5))),.assign (.v 4) (.mu 4 (.list [])),.assign (.tup [(.v 5),(.v 6)]) (.tup [(.int 0),(.bin .Sub (.v 3) (.int 1))]),.for_ (.v 7) (.call (.g 8) [(.bin .Add (.int 1) (.bin .Mod (.bin .FloorDiv (.v 0) (.int 5)) (.int 6)))]) [.assign (.v 8) (.call (.g 73) [(.v 1),(.v 7)]),.assign (.v 9) (.ite (.v 2) (.bin .Mult (.int 2) (.bin .Add (.int 1) (.bin .Mod (.v 8) (.bin .FloorDiv (.v 3) (.int 2))))) (.bin .Add (.int 1) (.bin .Mod (.v 8) (.v 3)))),.assign (.v 10) (.call (.g 14) [(.int 0),(.bin .Add (.bin .Sub (.v 5) (.v 9)) (.int 1))]),.assign (.v 11) (.bin .Add (.v 10) (.bin .Mod (.bin .FloorDiv (.v 8) (.int 30)) (.bin .Add (.bin .Sub (.call (.g 13) [(.bin .Sub (.v 3) (.v 9)),(.v 6)]) (.v 10)) (.int 1)))),.expr (.meth (.v 4) 0 [(.bin .Add (.bin .Add (.bin .Mult (.str ".") (.v 11)) (.bin .Mult (.str "#") (.v 9))) (.bin .Mult (.str ".") (.bin .Sub (.bin .Sub (.v 3) (.v 11)) (.v 9))))]),.assign (.tup [(.v 5),(.v 6)]) (.tup [(.v 11),(.bin .Sub (.bin .Add (.v 11) (.v 9)) (.int 1))])],.ret (.v 4)]⟩
theorem sign_in(b:Bool):InP (.str ⟨#[sgn b]⟩) (.tup [.str "#",.str "."]) true:=by
 cases b
 .exact⟨_,_,rfl,.inr rfl,by decide +kernel,by decide +kernel,by decide +kernel,by decide +kernel⟩
 .exact⟨_,_,rfl,.inr rfl,by decide +kernel,by decide +kernel,by decide +kernel,by decide +kernel⟩
theorem DJ(r:List Bool):C8 (Cb r)=r.map λb=>.str ⟨#[sgn b]⟩:=by
 unfold C8 Cb;show ((r.map sgn).map _)=_;rw[aY];rfl
inductive Q1(avs:List AV)(V:LS)(K:KR):Prop
 |mk (a:_)(G:Gr)(w:_)(c0:avs=[.loc a 0])(c1:V=[.at a (.list (AA G))])(c2:Grid G w)(c3:(G.any λr=>r.any id)=true)(c4:K ⟨[],.val (.bool true)⟩ [.at a (.list (AA G))]):Q1 avs V K
noncomputable def fArows:FS:=specF λavs V K X=>Q1 avs V K
noncomputable def arM(a:Addr)(x:Option AV):M:=[some (.loc a 0),x,aa]
noncomputable def arL(a:Addr)(G:Gr):LS:=[.at a (.list (AA G))]
inductive ArwJ(a:Addr)(G:Gr)(d r:Gr):M->LS->Prop
 |mk (hs:∀x∈r,x∈G)(x:Option AV):ArwJ a G d r (arM a x) (arL a G)
noncomputable abbrev tAr:Tab:=⟨true,[28],[],[],[]⟩
theorem Grid.fst{G:Gr}{w:Nat}(g:Grid G w):∃d,(AA G)[0]?=some (.str (Cb d))/\d.length=w:=by
 have h1:=g.h1;have len:=g.len;clear g
 cases G with|nil=>exact absurd h1 (by decide)|cons d G=>exact⟨d,rfl,len d (.head _)⟩
theorem GM{r:List Bool}{w:Nat}(e:r.length=w)(h:w<=6):(Cb r).length<=big:=by rw[AY,e];exact At (aw h (by decide))
theorem arows_1{X:XL}{KK:KS}{a:Addr}{G d s:Gr}{r:List Bool}{w:Nat}{m:M}{V:LS}{C:M->LS->Prop}(g:Grid G w)(j:ArwJ a G d (r::s) m V)(B:∀As Ab,ArwJ a G (d++[r]) s As Ab->C As Ab) :
  patW true (.v 1) (.str (Cb r)) m (λAq=>wpSs tAr [.ite (.or [(.not (.call (.g 1) [(.v 1),(.g 6)])),(.not (.cmp2 .LtE .LtE (.int 1) (.call (.g 0) [(.v 1)]) (.g 28)))]) [.ret (.bool false)] []] X Aq V (G4 (some 0) V C KK)):=by
 induction j using ArwJ.casesOn with
 |mk hs x =>
  have lr:=g.len r (hs r (.head _));have w6:=g.w6;have w1:=g.w1;exact⟨GM lr w6,ifT (by rw[AY,decide_eq_true_eq];exact lin [r.length,w] [] (.f K1 (.c V0)) [.D (-1) V0 V1,.b K1 V1] rfl lr w1) (ifF (by rw[AY,Bool.not_eq_false',decide_eq_true_eq];exact lin [r.length,w] [] (.f (.c V0) K6) [.d V0 V1,.b V1 K6] rfl lr w6) ⟨rfl,B _ _ (.mk (λy u=>hs y (.tail _ u)) _)⟩)⟩
theorem arows_2{X:XL}{KK:KS}{a:Addr}{G d s:Gr}{r:List Bool}{w:Nat}{m:M}{V:LS}{C:M->LS->Prop}(g:Grid G w)(j:ArwJ a G d (r::s) m V)(O:∀As Ab,ArwJ a G (d++[r]) s As Ab->C As Ab) :
  patW true (.v 1) (.str (Cb r)) m (λAq=>wpSs tAr [.ite (.or [(.cmp .NotEq (.call (.g 0) [(.v 1)]) (.call (.g 0) [(.sub (.v 0) (.int 0))])),(.not (.call (.g 15) [(.comp (.cmp .In (.v 2) (.tup [(.str "#"),(.str ".")])) 2 (.v 1) [])]))]) [.ret (.bool false)] []] X Aq V (G4 (some 0) V C KK)):=by
 induction j using ArwJ.casesOn with
 |mk hs x =>
  have lr:=g.len r (hs r (.head _));have w6:=g.w6;refine X1pp g.fst λz U B=>?_;refine⟨GM lr w6,rfl,_,U,GM B w6,ifF (by rw[AY,AY,lr,B,beq_self_eq_true];rfl) ?_⟩
  refine⟨Eu r,At (by rw[DJ,an,lr];exact aw w6 (by decide)),?_⟩
  refine B4 (r:=r) (g:=λb=>.str ⟨#[sgn b]⟩) (f:=λZ=>.bool true) (DJ r) (λb T C h=>⟨_,sign_in b,h⟩) ?_;refine⟨r.map λZ=>true,by rw[aY];rfl,?_⟩
  rw[List.all_map,show (r.all (id ∘ λZ=>true))=true by simp]
  exact⟨rfl,O _ _ (.mk (λy u=>hs y (.tail _ u)) _)⟩
theorem arows_ok:FnOk tAr Gs .val 2 0 fArows:=by
 refine .specF λu V K X h=>?_;obtain⟨a,G,w,rfl,rfl,g,T,Y⟩:=h;have U:(AA G).length=G.length:=by unfold AA;rw[an]
 have h1:=g.h1;have h6:=g.h6;have z:(AA G).length<=big:=by rw[U];exact At (aw h6 (by decide))
 refine⟨rfl,rfl,rfl,z,ifT (by rw[U,decide_eq_true_eq];exact lin [bX G] [] (.f K1 (.c V0)) [.b K1 V0] rfl h1) (ifF (by rw[U,Bool.not_eq_false',decide_eq_true_eq];exact lin [bX G] [] (.f (.c V0) K6) [.b V0 K6] rfl h6) ⟨rfl,?_⟩)⟩
 refine A7 (r:=G) (g:=λr=>.str (Cb r)) rfl (ArwJ a G) (λd m V j=>?_) (λd r s m V j C B=>arows_1 g j B) (d:=[]) (.mk (λZ h=>h) _)
 induction j using ArwJ.casesOn with
 |mk _ x =>
  refine⟨rfl,?_⟩;refine A7 (r:=G) (g:=λr=>.str (Cb r)) rfl (ArwJ a G) (λd m V j=>?_) (λd r s m V j C B=>arows_2 g j B) (d:=[]) (.mk (λZ h=>h) _)
  induction j using ArwJ.casesOn with
  |mk _ x =>
   refine⟨rfl,z,?_⟩;refine B4 (r:=G) (g:=λr=>.str (Cb r)) (f:=λr=>.bool (r.any id)) rfl (λr y C h=>⟨_,J5 r,h⟩) ?_;refine⟨G.map λr=>r.any id,by rw[aY];rfl,?_⟩
   rw[List.any_map,show (id ∘ λr:List Bool=>r.any id)=λr=>r.any id from rfl,T]
   exact Y
end
section
noncomputable def Js(i:Nat):List AV->List AV
 |[]=>[]
 |x::r=>.tup [.int i,x]::Js (i+1) r
theorem Do:∀(l:List AV)(i:Nat),(l.mapIdx λj x=>(.tup [.int ((i+j:Nat):Int),x]:AV))=Js i l
 |[],_=>rfl
 |x::r,i=>by
  rw[List.mapIdx_cons];have u:=Do r (i+1);rw[Js,<- u,Nat.add_zero]
  congr 1
  apply ey;intro j;rw[fT,fT]
  congr 1
  funext y
  congr 3
  exact ai (lin [i,j] [] (.f (.c (.A V0 (.A V1 K1))) (.c (.A (.A V0 K1) V1))) [] rfl) (lin [i,j] [] (.f (.c (.A (.A V0 K1) V1)) (.c (.A V0 (.A V1 K1)))) [] rfl)
theorem Hf(l:List AV):Cu l=Js 0 l:=by
 rw[<- Do l 0];unfold Cu
 simp
set_option tactic.hygienic true in
theorem Fs{α:Type}{g:α->AV}{q:Bool}{p:Pat}{body:M->LS->KS->Prop}{ok:Option Nat}{K:KS}(J:List α->List α->M->LS->Prop)(y:∀d m V,J d [] m V->K .next m V)
  (hs:∀d x r m V,J d (x::r) m V->∀C:M->LS->Prop,(∀O z,J (d++[x]) r O z->C O z)->patW q p (.tup [.int d.length,g x]) m (λAq=>body Aq V (G4 ok V C K))):∀{r d:List α}{m:M}{V:LS},J d r m V->Jq q p body ok K (Js d.length (r.map g)) m V
 |[],d,m,V,h=>y d m V h
 |x::r,d,m,V,h=>hs d x r m V h (Jq q p body ok K (Js (d.length+1) (r.map g))) λO z h=>by
  have:=Fs J y hs h
  rw[aE]at this;exact this
theorem FU{y:Int}{b:Bool}:∀{e:List Bool}{x:Int},Ck y x (e++[b])=Ck y x e++Ck y (x+e.length) [b]
 |[],x=>by rw[gd,c9];show _=Ck y (x+0) [b];rw[bH]
 |c::e,x=>by
  have u:=FU (y:=y) (b:=b) (e:=e) (x:=x+1);rw[aK,show x+((e.length+1:Nat):Int)=x+1+e.length by exact ai (lin [e.length] [x] (.f (.A V0 (.c (.A V0 K1))) (.A (.A V0 K1) (.c V0))) [] rfl) (lin [e.length] [x] (.f (.A (.A V0 K1) (.c V0)) (.A V0 (.c (.A V0 K1)))) [] rfl)]
  cases c
  .exact u
  .show (x,y)::Ck y (x+1) (e++[b])=(x,y)::(Ck y (x+1) e++_)
   rw[u]
theorem Cv{r:List Bool}:∀{d:Gr}{y:Int},BF y (d++[r])=BF y d++Ck (y+d.length) 0 r
 |[],y=>by
  rw[gd];show Ck y 0 r++[]=[]++Ck (y+0) 0 r;rw[aL,bH];rfl
 |c::d,y=>by
  have Y:=Cv (r:=r) (d:=d) (y:=y+1);rw[aK,show y+((d.length+1:Nat):Int)=y+1+d.length by exact ai (lin [d.length] [y] (.f (.A V0 (.c (.A V0 K1))) (.A (.A V0 K1) (.c V0))) [] rfl) (lin [d.length] [y] (.f (.A (.A V0 K1) (.c V0)) (.A V0 (.c (.A V0 K1)))) [] rfl)]
  show Ck y 0 c++BF (y+1) (d++[r])=(Ck y 0 c++BF (y+1) d)++_;rw[Y,aM]
theorem Jp{d:Gr}{e:List Bool}:(((e.length:Int),(d.length:Int)):Ag)∉Ae d++Ck d.length 0 e:=by
 intro h
 rcases aZ.mp h with h|h
 .refine Ao (cellsOf_mem.mp h) λZ u=>?_
  refine X1pp u λr Y Z=>?_;rw[show ((e.length:Int),(d.length:Int)).2.toNat=d.length from b7 _,aX (ay _)]at Y
  exact nS Y
 .refine Bl (rowC_mem.mp h) λZ Z Y=>?_
  rw[show (((e.length:Int),(d.length:Int)).1 - 0).toNat=e.length by show ((e.length:Int) - 0).toNat=_;omega,aX (ay _)]at Y
  exact nS Y
noncomputable def Ch(P vs:List Ag):List Ag:=(vs.filter λk=>!decide (k∈P)).foldl ins []
theorem Lj{P vs:List Ag}{k:Ag}:k∈Ch P vs↔k∈vs/\k∉P:=by
 unfold Ch;rw[BO,bE]
 simp
theorem DW{P vs:List Ag}:(Ch P vs).Nodup:=Bg fu
theorem freeF_in{P vs:List Ag}{k:Ag}(h:k∈P):Ch P (vs++[k])=Ch P vs:=by
 unfold Ch;rw[ef,c8 (by simp[h]),io,aL]
theorem Li{P vs:List Ag}{k:Ag}(h:k∉P):Ch P (vs++[k])=ins (Ch P vs) k:=by
 unfold Ch;rw[ef,c7 (by simp[h]),io,gM];rfl
theorem Ga{P vs:List Ag}:(Ch P vs).length<=vs.length:=by
 unfold Ch;have Y:=CM (ks:=vs.filter λk=>!decide (k∈P)) (fs:=[]);have z:=b5 (λk=>!decide (k∈P)) vs;rw[c9]at Y;exact lin [(il ins [] (e9 (λk=>!decide (k∈P)) vs)).length,(e9 (λk=>!decide (k∈P)) vs).length,vs.length] [] (.b V0 V2) [.b V0 (.A K0 V1),.b V1 V2] rfl Y z
noncomputable def box(xs ys:List Int):List Ag:=ys.flatMap λy=>xs.map λx=>(x,y)
theorem Hq(xs O:List Int):(box xs O).length=O.length * xs.length:=by
 unfold box
 induction O with|nil=>simp|cons y O Y=>rw[List.flatMap_cons,aE,Y,an,aK,Nat.succ_mul,Nat.add_comm]
theorem box_mem{xs ys:List Int}{k:Ag}:k∈box xs ys↔k.1∈xs/\k.2∈ys:=by
 unfold box;rw[eJ]
 constructor
 .intro u
  refine X1pp u λy z h=>?_;refine X1pr k (aW.mp h) λx O=>?_;exact⟨O,z⟩
 .intro u
  refine Ao u λO z=>?_;exact⟨k.2,z,aW.mpr ⟨k.1,O,rfl⟩⟩
theorem box_snoc(xs O:List Int)(y:Int):box xs (O++[y])=box xs O++xs.map λx=>(x,y):=by
 unfold box;rw[gh];simp
noncomputable def AL(P:List Ag)(w h:Nat):List Ag:=Ch P (box (ivs (-1) (w+2)) (ivs (-1) (h+2)))
theorem around_mem{P:List Ag}{w h:Nat}{k:Ag}:k∈AL P w h↔((-1<=k.1/\k.1<=w)/\(-1<=k.2/\k.2<=h))/\k∉P:=by
 unfold AL;rw[Lj,box_mem,ivs_mem,ivs_mem]
 constructor
 .intro u
  obtain⟨⟨⟨B,z⟩,Y,y⟩,O⟩:=u;exact⟨⟨⟨lin [] [k.fst] (.f Km1 V0) [.f Km1 V0] rfl B,lin [w] [k.fst] (.f V0 (.c V0)) [.g V0 (.A Km1 (.c (.A V0 K2)))] rfl z⟩,⟨lin [] [k.snd] (.f Km1 V0) [.f Km1 V0] rfl Y,lin [h] [k.snd] (.f V0 (.c V0)) [.g V0 (.A Km1 (.c (.A V0 K2)))] rfl y⟩⟩,O⟩
 .intro u
  obtain⟨⟨⟨B,z⟩,Y,y⟩,O⟩:=u;exact⟨⟨⟨lin [] [k.fst] (.f Km1 V0) [.f Km1 V0] rfl B,lin [w] [k.fst] (.g V0 (.A Km1 (.c (.A V0 K2)))) [.f V0 (.c V0)] rfl z⟩,⟨lin [] [k.snd] (.f Km1 V0) [.f Km1 V0] rfl Y,lin [h] [k.snd] (.g V0 (.A Km1 (.c (.A V0 K2)))) [.f V0 (.c V0)] rfl y⟩⟩,O⟩
theorem JC{P:List Ag}{G:Gr}{w:Nat}(g:Grid G w):(AL P w G.length).length<=64:=by
 refine aw Ga ?_;rw[Hq,Az,Az];exact dT (show G.length+2<=8 by have:=g.h6;exact lin [bX G] [] (.b (.A V0 K2) K8) [.b V0 K6] rfl this) (show w+2<=8 by have:=g.w6;exact lin [w] [] (.b (.A V0 K2) K8) [.b V0 K6] rfl this)
inductive Q0(avs:List AV)(V:LS)(K:KR):Prop
 |mk (x:_)(dx:_)(o:_)(G:Gr)(w:_)(P:List Sp)(tl:_)(c0:avs=[.loc x 0])(c1:V=[.at x (.inst dx),.at dx (.attrs (FJ (.list (AA G)) (.loc o 2))),.at o (.dict (tt P)),tl])(c2:Grid G w)(c3:K ⟨[.dict (tt (AL P w G.length))],.new 0⟩ V):Q0 avs V K
noncomputable def Ly:FS:=⟨λZ=>aa,λavs V K X=>Q0 avs V K,true⟩
theorem Grid.first{G:Gr}{w:Nat}(g:Grid G w):∃d,G[0]?=some d/\d.length=w:=by
 have h1:=g.h1;have len:=g.len;clear g
 cases G with|nil=>exact absurd h1 (by decide)|cons d G=>exact⟨d,rfl,len d (.head _)⟩
theorem gridA_at{G:Gr}{n:Nat}{r:List Bool}(h:G[n]?=some r):(AA G)[n]?=some (.str (Cb r)):=by
 unfold AA;rw[aT,h];rfl
theorem CL{G:Gr}{w:Nat}(g:Grid G w):(AA G).length<=1000:=by
 unfold AA;rw[an];exact aw g.h6 (by decide)
theorem H8(G:Gr):(AA G).length=G.length:=by unfold AA;rw[an]
theorem rowS_big{r:List Bool}{w:Nat}(e:r.length=w)(h:w<=6):(Cb r).length<=big:=by
 rw[AY,e];exact At (aw h (by decide))
theorem FR{n:Nat}(h:n<=6):cu (-1) ((n:Int)+1) 1=true:=CB (by decide) (by decide) (lin [n] [] (.f Bm (.A (.c V0) K1)) [] rfl) (lin [n] [] (.f (.A (.c V0) K1) Ay) [.b V0 K6] rfl h)
theorem J8(n:Nat):AW (-1) 1 (Bb (-1) ((n:Int)+1) 1)=(ivs (-1) (n+2)).map .int:=by
 rw[J9,show ((n:Int)+1 - -1)=((n+2:Nat):Int) by exact ai (lin [n] [] (.f (.S (.A (.c V0) K1) Km1) (.c (.A V0 K2))) [] rfl) (lin [n] [] (.f (.c (.A V0 K2)) (.S (.A (.c V0) K1) Km1)) [] rfl),b7]
noncomputable abbrev arS'(x dx o a:Addr)(G:Gr)(P:List Ag)(tl:Slot)(F:List (Ag×AV)):LS:=[.at x (.inst dx),.at dx (.attrs (FJ (.list (AA G)) (.loc o 2))),.at o (.dict (tt P)),tl,.at a (.dict F)]
noncomputable abbrev arS(x dx o a:Addr)(G:Gr)(P:List Ag)(tl:Slot)(F:List Ag):LS:=[.at x (.inst dx),.at dx (.attrs (FJ (.list (AA G)) (.loc o 2))),.at o (.dict (tt P)),tl,.at a (.dict (tt F))]
inductive ArJ(x dx o a:Addr)(G:Gr)(w:Nat)(P:List Ag)(tl:Slot)(d r:List Int):M->LS->Prop
 |mk (hd:d++r=ivs (-1) (G.length+2))(u v:Option AV):ArJ x dx o a G w P tl d r [some (.loc x 0),some (.loc a 4),u,v] (arS x dx o a G P tl (Ch P (box (ivs (-1) (w+2)) d)))
inductive ArI(x dx o a:Addr)(G:Gr)(w:Nat)(P:List Ag)(tl:Slot)(y:Int)(B:List Ag)(d r:List Int):M->LS->Prop
 |mk (hd:d++r=ivs (-1) (w+2))(v:Option AV):ArI x dx o a G w P tl y B d r [some (.loc x 0),some (.loc a 4),some (.int y),v] (arS x dx o a G P tl (Ch P (B++d.map λx=>(x,y))))
theorem HR{a:Int}{n:Nat}{d r:List Int}{x:Int}(h:d++x::r=ivs a n):d.length<n:=by
 have:=congrArg bX h
 rw[aE,aK,Az]at this;exact lin [d.length,r.length,n] [] (.c V0 V2) [.d (.A V0 (.A V1 K1)) V2] rfl this
theorem Hs{ex:List Nat}{X:XL}{x dx o a:Addr}{G:Gr}{w:Nat}{P:List Ag}{tl:Slot}{y z:Int}{B:List Ag}{d r:List Int}{m:M}{V:LS}{C:M->LS->Prop}{KK:KS}(hB:B.length+w+2<=1000)(j:ArI x dx o a G w P tl y B d (z::r) m V)(T:∀As Ab,ArI x dx o a G w P tl y B (d++[z]) r As Ab->C As Ab) :
  wpSs ⟨true,ex,[],[],[]⟩ [.ite (.cmp .NotIn (.tup [(.v 3),(.v 2)]) (.attr (.v 0) 12)) [.setitem (.v 1) (.tup [(.v 3),(.v 2)]) (.bool true)] []] X (E9 m 3 (.int z)) V (G4 aa V C KK):=by
 induction j using ArI.casesOn with
 |mk u v =>
  have U:=HR u;refine⟨⟨rfl,rfl,rfl,rfl⟩,rfl,_,⟨rfl,B1 P (z,y)⟩,?_⟩;have e:B++(d++[z]).map (λx=>(x,y))=(B++d.map λx=>(x,y))++[(z,y)]:=by rw[bB,<- aM];rfl
  have Y:∀F,F=Ch P (B++(d++[z]).map λx=>(x,y))->C [some (.loc x 0),some (.loc a 4),some (.int y),some (.int z)] (arS x dx o a G P tl F):=λF O=>by
   subst O;exact T _ _ (.mk (by rw[aM];exact u) _)
  rw[e]at Y
  by_cases hz:(z,y)∈P
  .exact ifF (by rw[decide_eq_true hz];rfl) (Y _ (freeF_in hz).symm)
  .refine ifT (by rw[decide_eq_false hz];rfl) ⟨rfl,At ?_,?_⟩
   .rw[BW]
    refine aw Ga ?_;rw[aE,an];clear Y e u;exact lin [B.length,w,d.length] [] (.b (.A V0 V2) AG) [.b (.A (.A V0 V1) K2) AG,.c V2 (.A V1 K2)] rfl hB U
   .have:=Y _ (Li hz).symm
    show C _ (arS' x dx o a G P tl (BH (tt (Ch P (B++d.map λx=>(x,y)))) (z,y) (.bool true)));rw[Iq DW];exact this
theorem L5{ex:List Nat}:FnOk ⟨true,ex,[],[],[]⟩ Gu .new 3 1 Ly:=by
 refine⟨λavs V K X h=>?_,λZ Z h=>by exact nS h⟩
 obtain⟨x,dx,o,G,w,P,tl,rfl,rfl,g,hK⟩:=h;have h6:=g.h6;have w6:=g.w6;refine X1pp g.first λr0 U T=>?_
 refine⟨rfl,λa=>⟨⟨rfl,rfl,rfl,rfl⟩,rfl,At (CL g),?_⟩⟩;refine⟨by rw[H8];exact FR h6,?_⟩
 refine A7 (g:=.int) ((congrArg (λn:Nat=>AW (-1) 1 (Bb (-1) ((n:Int)+1) 1)) (H8 G)).trans (J8 _)) (ArJ x dx o a G w P tl) ?_ ?_ (d:=[]) (.mk rfl _ _)
 .intro d m V j
  induction j using ArJ.casesOn with
  |mk O u v =>
   rw[aL]at O;subst O;exact⟨rfl,hK⟩
 .intro d y r m V j C Y
  induction j using ArJ.casesOn with
  |mk O u v =>
   have hl:=HR O;refine⟨⟨rfl,rfl,rfl,rfl⟩,rfl,_,gridA_at U,rowS_big T w6,?_⟩;refine⟨by rw[AY,T];exact FR w6,?_⟩
   have hB:(box (ivs (-1) (w+2)) d).length+w+2<=1000:=by
    rw[Hq,Az]
    have:d.length * (w+2)<=8 * 8:=dT (by clear O U T;exact lin [bX G,d.length] [] (.b V1 K8) [.b V0 K6,.c V1 (.A V0 K2)] rfl h6 hl) (by clear O U T;exact lin [w] [] (.b (.A V0 K2) K8) [.b V0 K6] rfl w6)
    clear O U T;exact lin [w,d.length * (w+2)] [] (.b (.A (.A V1 V0) K2) AG) [.b V0 K6,.b V1 (.M 8 K8)] rfl w6 this
   refine A7 (g:=.int) ((congrArg (λn:Nat=>AW (-1) 1 (Bb (-1) ((n:Int)+1) 1)) ((AY r0).trans T)).trans (J8 _)) (ArI x dx o a G w P tl y (box (ivs (-1) (w+2)) d)) ?_ ?_ (d:=[]) ?_
   .intro e m V j
    induction j using ArI.casesOn with
    |mk he v =>
     rw[aL]at he;subst he;rw[<- box_snoc];exact Y _ _ (.mk (by rw[aM];exact O) _ _)
   .intro e z s m V j C Y
    exact Hs hB j Y
   .have:=ArI.mk (x:=x) (dx:=dx) (o:=o) (a:=a) (G:=G) (w:=w) (P:=P) (tl:=tl) (y:=y) (B:=box (ivs (-1) (w+2)) d) (d:=[]) (r:=ivs (-1) (w+2)) rfl v
    rw[List.map_nil,aL]at this;exact this
theorem Ld(b:Bool):EqP (.str ⟨#[sgn b]⟩) (.str "#") b:=by
 cases b
 .exact .py ⟨_,_,rfl,rfl,by decide +kernel,by decide +kernel,by decide +kernel⟩
 .exact .py ⟨_,_,rfl,rfl,by decide +kernel,by decide +kernel,by decide +kernel⟩
theorem fset_fl(t o:AV):JG (JG [] (fld 11) t) (fld 12) o=FJ t o:=by
 show (if (("texts":Str) == ("own":Str))=true then _ else _)=_;rw[if_neg (by decide +kernel)]
 rfl
def Hangs(P:List Ag)(a:Ag):Prop:=∀k∈P,Reach P a k
theorem Hangs.len{P fs:List Ag}{a:Ag}(h:Hangs P a)(ha:a∈P)(n:P.Nodup)(c:Comp P a fs):fs.length=P.length :=
 same_length c.1 n λk=>(c.2 k).trans ⟨λq=>q.mem.elim (λe=>e▸ha) id,h k⟩
theorem J6{y:Int}:∀{r:List Bool}{x:Int},(Ck y x r).Pairwise lt2
 |[],_=>.nil
 |b::r,x=>by
  have u:=J6 (y:=y) (r:=r) (x:=x+1)
  cases b
  .exact u
  .refine d9.mpr ⟨λk B=>?_,u⟩
   refine Bl (rowC_mem.mp B) λY z Z=>?_;exact .inr ⟨Y.symm,lin [] [k.fst,x] (.g V1 V0) [.f K0 (.S V0 (.A V1 K1))] rfl z⟩
theorem Gn:∀{G:Gr}{y:Int},(BF y G).Pairwise lt2
 |[],_=>.nil
 |r::G,y=>by
  refine List.pairwise_append.mpr ⟨J6,Gn,λa ha b Y=>?_⟩;refine Ao (rowC_mem.mp ha) λO Z=>?_;refine Ao (cellsF_mem.mp Y) λz Z=>?_;exact .inl (by dsimp only at z;exact lin [] [a.snd,y,b.snd] (.g V0 V2) [.h V0 V1,.f K0 (.S V2 (.A V1 K1))] rfl O z)
theorem Ix(G:Gr):(Ae G).Pairwise lt2:=Gn
structure Flo(G:Gr)(w:Nat):Prop where
 g:Grid G w
 ne:∃a P',Ae G=a::P'/\Hangs (Ae G) a
 out:Hangs (AL (Ae G) w G.length) (-1,-1)
theorem Flo.some{G:Gr}{w:Nat}(f:Flo G w):(G.any λr=>r.any id)=true:=by
 refine X2pp f.ne λa U e Z=>?_;have ha:a∈Ae G:=by rw[e];exact .head _
 refine Ao (cellsOf_mem.mp ha) λZ u=>?_;refine X1ppp u λr Y Z z=>?_;rw[dQ];exact⟨r,ag Y,dQ.mpr ⟨true,ag z,rfl⟩⟩
inductive Q9(avs:List AV)(V:LS)(K:KR):Prop
 |mk (a:_)(G:Gr)(w:_)(c0:avs=[.loc a 0])(c1:V=[.at a (.list (AA G))])(c2:Flo G w)(c3:K ⟨[],.val (AP (.list (AA G)) (Ae G))⟩ [.at a (.list (AA G))]):Q9 avs V K
noncomputable def fFloor:FS:=specF λavs V K X=>Q9 avs V K
noncomputable abbrev tInit:Tab:=⟨true,[28,19,20,21],[(36,fArows),(35,Lr)],[(13,Ly)],[]⟩
noncomputable abbrev inS(x dx o a:Addr)(G:Gr)(P:List (Ag×AV)):LS:=[.at x (.inst dx),.at dx (.attrs (FJ (.list (AA G)) (.loc o 2))),.at o (.dict P),.at a (.list (AA G))]
inductive InJ(x dx o a:Addr)(G:Gr)(d r:Gr):M->LS->Prop
 |mk (hd:d++r=G)(u1 u2 u3 u4:Option AV):InJ x dx o a G d r [some (.loc x 0),some (.loc a 3),u1,u2,u3,u4,aa] (inS x dx o a G (tt (Ae d)))
inductive InI(x dx o a:Addr)(G d:Gr)(r:List Bool)(e t:List Bool):M->LS->Prop
 |mk (he:e++t=r)(u1 u2:Option AV):InI x dx o a G d r e t [some (.loc x 0),some (.loc a 3),some (.int d.length),some (.str (Cb r)),u1,u2,aa] (inS x dx o a G (tt (Ae d++Ck d.length 0 e)))
theorem DD{α:Type}{d r G:List α}{x:α}(h:d++x::r=G):d.length<G.length:=by
 rw[<- h,aE,aK];exact lin [d.length,r.length] [] (.c V0 (.A V0 (.A V1 K1))) [] rfl
theorem KW{X:XL}{x dx o a:Addr}{G d:Gr}{w:Nat}{r e t:List Bool}{b:Bool}{m:M}{V:LS}{C:M->LS->Prop}{KK:KS}(B:(Ae d).length<=36)(T:r.length<=6)(j:InI x dx o a G d r e (b::t) m V)(U:∀As Ab,InI x dx o a G d r (e++[b]) t As Ab->C As Ab) :
  wpSs tInit [.ite (.cmp .Eq (.v 5) (.str "#")) [.setitem (.attr (.v 0) 12) (.tup [(.v 4),(.v 2)]) (.bool true)] []] X (E9 (E9 m 4 (.int e.length)) 5 (.str ⟨#[sgn b]⟩)) V (G4 aa V C KK):=by
 induction j using InI.casesOn with
 |mk O u1 u2 =>
  have z:=DD O;have Y:∀q,q=tt (Ae d++Ck d.length 0 (e++[b]))->C [some (.loc x 0),some (.loc a 3),some (.int d.length),some (.str (Cb r)),some (.int e.length),some (.str ⟨#[sgn b]⟩),aa] (inS x dx o a G q):=λq hq=>by
   subst hq;exact U _ _ (.mk (by rw[aM];exact O) _ _)
  rw[FU]at Y;refine⟨b,Ld b,?_⟩
  cases b
  .rw[show Ck (d.length:Int) (0+e.length) [false]=[] from rfl,aL]at Y
   exact Y _ rfl
  .refine⟨⟨rfl,rfl,rfl,rfl⟩,rfl,rfl,At ?_,Y _ ?_⟩
   .rw[BW,aE]
    have u:=Fa (y:=d.length) (r:=e) (x:=0);clear Y O;exact lin [(Ae d).length,r.length,e.length,(Ck (↑(bX d)) 0 e).length] [] (.b (.A V0 V3) AG) [.b V0 K36,.b V1 K6,.c V2 V1,.b V3 V2] rfl B T z u
   .rw[show Ck (d.length:Int) (0+e.length) [true]=[(0+(e.length:Int),(d.length:Int))] from rfl,cV,<- aM]
    exact Hj Jp
theorem init_end{K:KR}{X:XL}{x dx o a:Addr}{G:Gr}{w:Nat}{u1 u2 B U:Option AV}(f:Flo G w)(hK:K ⟨[],.val (AP (.list (AA G)) (Ae G))⟩ [.at a (.list (AA G))]) :
  wpSs tInit (c_Finit.body.drop 4) X [some (.loc x 0),some (.loc a 3),u1,u2,B,U,aa] (inS x dx o a G (tt (Ae G))) (λfl Z τ=>flV fl=.none/\madeW 1 x dx τ K):=by
 refine X2pp f.ne λu P' z hh=>?_;have g:=f.g;have d:(Ae G).length<=1000:=aw g.cells (by decide)
 have O:(AL (Ae G) w G.length).length<=1000:=aw (JC g) (by decide)
 have h0:((tt (Ae G)).map λp=>sp p.1)[0]?=some (sp u):=by rw[E5,z];rfl
 have tl:∀{P:List Ag},P.length<=1000->(tt P).length<=big:=λh=>At (by rw[BW];exact h)
 refine⟨⟨rfl,rfl,rfl,rfl⟩,rfl,rfl,tl d,sp u,h0,⟨rfl,rfl,rfl,rfl⟩,rfl,u,Ae G,d,.inr ⟨o,rfl,rfl,λfs hc=>?_⟩⟩;have y:=hh.len (by rw[z];exact .head _) (Bx (Ix G)) hc
 refine⟨tl (y▸d),⟨rfl,rfl,rfl,rfl⟩,rfl,rfl,tl d,ifF (by rw[BW,BW,y,beq_self_eq_true];rfl) ?_⟩
 refine⟨⟨rfl,rfl,rfl,rfl⟩,⟨rfl,rfl,rfl,rfl⟩,x,dx,o,G,w,Ae G,_,rfl,rfl,g,?_⟩;refine⟨(-1,-1),AL (Ae G) w G.length,O,.inl ⟨rfl,rfl,λfs2 T=>?_⟩⟩;have m1:((-1,-1):Ag)∈AL (Ae G) w G.length:=around_mem.mpr ⟨⟨⟨by decide,dh (by decide) (dX _)⟩,by decide,dh (by decide) (dX _)⟩,λq=>by have:=(g.in q).1;exact absurd this (by decide)⟩
 have Y:=f.out.len m1 DW T;refine⟨tl (Y▸O),tl O,ifF (by rw[BW,BW,Y,beq_self_eq_true];rfl) ?_⟩
 exact⟨rfl,⟨rfl,rfl,rfl,rfl,rfl,rfl⟩,hK⟩
noncomputable def locHd?(l:List AV):Option Addr:=match l with
 |[]=>aa
 |x::_=>(match x with
  |.loc a _=>some a
  |_=>aa)
theorem Ka{u:List AV}{a:Addr}(h:A1 u 0=[.loc a 0]):A1 u 3=[.loc a 3]:=by
 cases u with
 |nil=>exact(Am rfl (congrArg locHd? h)).elim
 |cons v r =>
  cases v with
  |loc b i =>
   obtain rfl:b=a:=ae (congrArg locHd? h)
   cases r with
   |nil=>rfl
   |cons v r =>
    have T:=(eS h).2
    cases v<;>exact(List.cons_ne_nil _ _ T).elim
  |_=>exact(Am rfl (congrArg locHd? h)).elim
theorem Jy{G d r:Gr}{w:Nat}(g:Grid G w)(z:d++r=G):(Ae d).length<=36:=by
 have U:=Cf (w:=w) (G:=d) (y:=0) λq hq=>g.len q (by rw[<- z];exact ba _ hq)
 have Y:d.length * w<=6 * 6:=dT (aw (by rw[<- z,aE];exact dO _ _) g.h6) g.w6
 exact aw U Y
theorem init_ok(u:List AV)(V:LS)(K:KR)(X:XL)(h:fFloor.spec (A1 u 0) V K X):makeW tInit c_Finit 5 0 (A1 u 3) V K X:=by
 obtain⟨a,G,w,ha,rfl,f,hK⟩:=h;have g:=f.g;rw[Ka ha];refine⟨rfl,λx dx=>⟨a,G,w,rfl,rfl,g,f.some,?_⟩⟩;refine⟨rfl,At (CL g),⟨rfl,rfl⟩,bf rfl,λo=>⟨⟨rfl,rfl⟩,bf rfl,rfl,?_⟩⟩;rw[Hf];refine Fs (r:=G) (g:=λr=>.str (Cb r)) (InJ x dx o a G) ?_ ?_ (d:=[]) ?_
 .intro d m V j
  induction j using InJ.casesOn with
  |mk y B O z U =>
   rw[aL]at y;clear g;subst y;exact init_end f hK
 .intro d r s m V j C Y
  induction j using InJ.casesOn with
  |mk y B O z U =>
   have T:r.length<=6:=by rw[g.len r (by rw[<- y];exact bx _ (.head _))];exact g.w6
   refine⟨Eu r,?_⟩;rw[Hf,DJ];refine Fs (r:=r) (g:=λb=>.str ⟨#[sgn b]⟩) (InI x dx o a G d r) ?_ ?_ (d:=[]) ?_
   .intro e m V j
    induction j using InI.casesOn with
    |mk he B O =>
     rw[aL]at he;clear T;subst he
     have:=InJ.mk (x:=x) (dx:=dx) (o:=o) (a:=a) (G:=G) (d:=d++[e]) (r:=s) (by rw[aM];exact y) (some (.int d.length)) (some (.str (Cb e))) B O
     unfold Ae at this;rw[Cv,cV]at this;exact⟨rfl,Y _ _ this⟩
   .intro e b t m V j C Y
    exact KW (w:=w) (Jy g y) T j Y
   .have:=InI.mk (x:=x) (dx:=dx) (o:=o) (a:=a) (G:=G) (d:=d) (r:=r) (e:=[]) (t:=r) rfl z U
    rw[show Ck (d.length:Int) 0 []=[] from rfl,aL]at this
    exact this
 .have:=InJ.mk (x:=x) (dx:=dx) (o:=o) (a:=a) (G:=G) (d:=[]) (r:=G) rfl aa aa aa aa
  have e:=fset_fl (.list (AA G)) (.loc o 2);rw[inS,<- e]at this;exact this
end
section
theorem ivs_at:∀{d:List Int}{x a:Int}{r:List Int}{n:Nat},d++x::r=ivs a n->x=a+d.length/\d.length<n
 |[],x,a,r,0,h=>by cases h
 |[],x,a,r,n+1,h=>by
  refine X0lp x (eS h) λZ=>?_;exact⟨(bH _).symm,gl _⟩
 |z::d,x,a,r,0,h=>by cases h
 |z::d,x,a,r,n+1,h=>by
  refine Ao (eS h) λu h=>?_;subst u;refine Ao (ivs_at h) λY T=>?_;rw[aK];exact⟨ai (lin [d.length] [x,z] (.f V0 (.A V1 (.c (.A V0 K1)))) [.h V0 (.A (.A V1 K1) (.c V0))] rfl Y) (lin [d.length] [x,z] (.f (.A V1 (.c (.A V0 K1))) V0) [.H (-1) V0 (.A (.A V1 K1) (.c V0))] rfl Y),lin [d.length,n] [] (.c (.A V0 K1) (.A V1 K1)) [.c V0 V1] rfl T⟩
theorem Cs{y:Int}:∀{r:List Bool}{x:Int},Ck y x r=((ivs x r.length).filter λz=>r.getD (z - x).toNat false).map λz=>(z,y)
 |[],_=>rfl
 |b::r,x=>by
  have Y:=Cs (y:=y) (r:=r) (x:=x+1);have e:((ivs (x+1) r.length).filter λz=>(b::r).getD (z - x).toNat false)=(ivs (x+1) r.length).filter λz=>r.getD (z - (x+1)).toNat false:=by
   apply List.filter_congr;intro z hz;rw[ivs_mem]at hz;rw[show (z - x).toNat=(z - (x+1)).toNat+1 by exact ar (lin [(z - (x+1)).toNat,(z - x).toNat] [z,x] (.b V1 (.A V0 K1)) [.f (.S V0 (.A V1 K1)) (.c V0),.h (.c V1) (.S V0 V1)] rfl (aI (z - (x+1))) (ao (lin [] [x,z] (.f K0 (.S V1 V0)) [.f (.A V0 K1) V1] rfl hz.1))) (lin [(z - x).toNat,(z - (x+1)).toNat] [z,x] (.b (.A V1 K1) V0) [.f (.S V0 V1) (.c V0),.h (.c V1) (.S V0 (.A V1 K1))] rfl (aI (z - x)) (ao (lin [] [x,z] (.f K0 (.S V1 (.A V0 K1))) [.f (.A V0 K1) V1] rfl hz.1)))]
   rfl
  rw[aK,ivs,List.filter_cons];have U:(b::r).getD (x - x).toNat false=b:=by rw[Int.sub_self];rfl
  rw[U,e]
  cases b
  .rw[if_neg (by decide),<- Y];rfl
  .rw[if_pos rfl,bQ,<- Y];rfl
theorem row_at{r:List Bool}{n:Nat}(h:n<r.length):(Cb r).cps[n]?=some (sgn (r.getD n false)):=by
 show ((r.map sgn).toArray)[n]?=_;rw[List.getElem?_toArray,aT,aA h,aB,aA h];rfl
theorem Lh{G:Gr}{n:Nat}{r:List Bool}(h:G[n]?=some r):(AA G)[n]?=some (.str (Cb r)):=by
 unfold AA;rw[aT,h];rfl
theorem CK(G:Gr):(AA G).length=G.length:=by unfold AA;rw[an]
theorem DI{n:Nat}(h:n<=6):cu 0 n 1=true:=CB (by decide) (by decide) (lin [n] [] (.f Bm (.c V0)) [] rfl) (lin [n] [] (.f (.c V0) Ay) [.b V0 K6] rfl h)
theorem rng_grid(G:Gr):AW 0 1 (Bb 0 (AA G).length 1)=(ivs 0 G.length).map .int:=by rw[CK,J7]
theorem Fb(r:List Bool):AW 0 1 (Bb 0 (Cb r).length 1)=(ivs 0 r.length).map .int:=by rw[AY,J7]
noncomputable def colG(G:Gr)(x:Int):List Bool:=G.map λr=>r.getD x.toNat false
noncomputable def trG(G:Gr)(w:Nat):Gr:=(ivs 0 w).map (colG G)
theorem JU{x y:Str}(h:x.cps.toList=y.cps.toList):x=y:=by
 obtain⟨⟨a⟩⟩:=x;obtain⟨⟨b⟩⟩:=y
 have:a=b:=h
 rw[this]
theorem Ic{α β:Type}(f:α->β):∀l:List α,(l.map λx=>[f x]).flatten=l.map f
 |[]=>rfl
 |x::l=>by rw[bQ,List.flatten_cons,Ic f l];rfl
inductive QU(avs:List AV)(V:LS)(K:KR):Prop
 |mk (G:Gr)(w:_)(c0:avs=[.list (AA G)])(c1:V=[])(c2:Grid G w)(c3:K ⟨[],.val (.list (AA (trG G w)))⟩ []):QU avs V K
noncomputable def Lq:FS:=specF λavs V K X=>QU avs V K
theorem JP{ex:List Nat}:FnOk ⟨true,ex,[],[],[]⟩ Co .val 2 0 Lq:=by
 refine .specF λavs V K X h=>?_;obtain⟨G,w,rfl,rfl,g,Y⟩:=h;have h1:=g.h1;have h6:=g.h6;have w6:=g.w6;have O:∃y,G[0]?=some y/\y.length=w:=by
  cases G with|nil=>exact absurd h1 (by decide)|cons y G=>exact⟨y,rfl,g.len y (.head _)⟩
 obtain⟨y,e0,B⟩:=O;refine⟨rfl,_,Lh e0,At (by rw[AY];exact lin [w,y.length] [] (.b V1 AG) [.b V0 K6,.d V1 V0] rfl w6 B),DI (by rw[AY];exact aw (dH B) w6),?_⟩
 refine⟨At (by rw[Fb,an,Az,B];exact aw w6 (by decide)),?_⟩
 refine B4 (g:=.int) (f:=λx=>.str (Cb (colG G x))) ((Fb y).trans (by rw[B])) (λx u C h=>?_) ?_
 .rw[ivs_mem]at u
  refine⟨At (by rw[CK];exact lin [bX G] [] (.b V0 AG) [.b V0 K6] rfl h6),?_⟩
  refine B4 (r:=G) (g:=λr=>.str (Cb r)) (f:=λr=>.str ⟨#[sgn (r.getD x.toNat false)]⟩) rfl (λr T C2 z=>?_) ?_
  .have lr:=g.len r T
   exact⟨⟨lin [] [x] (.f K0 V0) [.f K0 V0] rfl u.1,lin [w] [x] (.g V0 Ay) [.b V0 K6,.g V0 (.A K0 (.c V0))] rfl w6 u.2⟩,_,row_at (lin [w,r.length,x.toNat] [x] (.c V2 V1) [.g V0 (.A K0 (.c V0)),.D (-1) V1 V0,.h (.c V2) V0] rfl u.2 lr (ao (lin [] [x] (.f K0 V0) [.f K0 V0] rfl u.1))),z⟩
  .refine⟨G.map λr=>⟨#[sgn (r.getD x.toNat false)]⟩,by rw[aY];rfl,?_,?_⟩
   .rw[aY,an]
    have e1:(G.map ((λx:Str=>x.length) ∘ λr=>(⟨#[sgn (r.getD x.toNat false)]⟩:Str))).sum=G.length:=by
     rw[show ((λx:Str=>x.length) ∘ λr:List Bool=>(⟨#[sgn (r.getD x.toNat false)]⟩:Str))=λZ=>1 from rfl,List.map_const',List.sum_replicate_nat];exact ar (lin [bX G] [] (.b (.U V0 1) V0) [] rfl) (lin [bX G] [] (.b V0 (.U V0 1)) [] rfl)
    rw[e1,show ("":Str).length=0 from rfl];exact lin [bX G] [] (.b (.A V0 (.U V0 0)) Ay) [.b V0 K6] rfl h6
   .have e2:Txt.join "" (G.map λr=>(⟨#[sgn (r.getD x.toNat false)]⟩:Str))=Cb (colG G x):=by
     apply JU;rw[F8,aY];show (G.map λr=>[sgn (r.getD x.toNat false)]).flatten=(colG G x).map sgn;unfold colG;rw[aY,Ic]
     rfl
    rw[e2];exact h
 .have e3:(ivs 0 w).map (λx=>AV.str (Cb (colG G x)))=AA (trG G w):=by unfold AA trG;rw[aY];rfl
  rw[e3];exact Y
end
section
noncomputable def AE(w:Nat)(p:Nat×Nat):List Bool:=aP p.1 false++(aP p.2 true++aP (w - p.1 - p.2) false)
structure Strips(ev:Bool)(w:Nat)(L:List (Nat×Nat)):Prop where
 ok:∀p∈L,1<=p.2/\p.1+p.2<=w/\(ev=true->p.2 % 2=0)
 ch:∀(i:Nat)(p q:Nat×Nat),L[i]?=some p->L[i+1]?=some q->p.1<q.1+q.2/\q.1<p.1+p.2
theorem Strips.nil{ev:Bool}{w:Nat}:Strips ev w []:=⟨λZ h=>(nM h),λZ Z Z h=>(nS h)⟩
theorem Strips.snoc{ev:Bool}{w:Nat}{L:List (Nat×Nat)}{q:Nat×Nat}(h:Strips ev w L)(hq:1<=q.2/\q.1+q.2<=w/\(ev=true->q.2 % 2=0))(U:∀p,L.getLast?=some p->p.1<q.1+q.2/\q.1<p.1+p.2):Strips ev w (L++[q]):=by
 refine⟨λp u=>?_,λi p r u y=>?_⟩
 .rcases aZ.mp u with z|z
  .exact h.ok p z
  .rw[aR.mp z];exact hq
 .rcases Nat.lt_trichotomy (i+1) L.length with z|z|z
  .rw[ce (by omega)]at u y
   exact h.ch i p r u y
  .rw[ce (by exact lin [i,L.length] [] (.c V0 V1) [.d (.A V0 K1) V1] rfl z)]at u
   rw[bn (by exact lin [i,L.length] [] (.b V1 (.A V0 K1)) [.D (-1) (.A V0 K1) V1] rfl z),show i+1 - L.length=0 by exact ar (lin [i,L.length,i+1 - L.length] [] (.b V2 K0) [.d (.A V0 K1) V1,.d (.A V2 V1) (.A V0 K1)] rfl z (ak (lin [i,L.length] [] (.b V1 (.A V0 K1)) [.D (-1) (.A V0 K1) V1] rfl z))) (lin [i+1 - L.length] [] (.b K0 V0) [] rfl)]at y
   obtain rfl:=ae y;refine U p ?_;rw[List.getLast?_eq_getElem?,show L.length - 1=i by exact ar (lin [i,L.length,L.length - 1] [] (.b V2 V0) [.D (-1) (.A V0 K1) V1,.d (.A V2 K1) V1] rfl z (ak (lin [i,L.length] [] (.b K1 V1) [.d (.A V0 K1) V1] rfl z))) (lin [i,L.length,L.length - 1] [] (.b V0 V2) [.d (.A V0 K1) V1,.b V1 (.A K1 V2)] rfl z (aq.mp (ay ((L.length) - (1)))))];exact u
  .rw[bn (by exact lin [L.length,i] [] (.b V0 (.A V1 K1)) [.c V0 (.A V1 K1)] rfl z),show i+1 - L.length=(i - L.length)+1 by exact ar (lin [i,L.length,i - L.length,i+1 - L.length] [] (.b V3 (.A V2 K1)) [.b V0 (.A V1 V2),.d (.A V3 V1) (.A V0 K1)] rfl (aq.mp (ay ((i) - (L.length)))) (ak (lin [L.length,i] [] (.b V0 (.A V1 K1)) [.c V0 (.A V1 K1)] rfl z))) (lin [i,L.length,i+1 - L.length,i - L.length] [] (.b (.A V3 K1) V2) [.b (.A V0 K1) (.A V1 V2),.d (.A V3 V1) V0] rfl (aq.mp (ay ((i+1) - (L.length)))) (ak (lin [L.length,i] [] (.b V0 V1) [.c V0 (.A V1 K1)] rfl z)))]at y
   exact nS y
theorem AZ{a b:Int}(z:0<b):0<=a.fmod b/\a.fmod b<b:=⟨Int.fmod_nonneg_of_pos _ z,Int.fmod_lt_of_pos _ z⟩
theorem s_hash:("#":Str)=⟨#[35]⟩:=by decide +kernel
theorem s_dot:(".":Str)=⟨#[46]⟩:=by decide +kernel
theorem Ky(c:Nat)(n:Int):(d3 ⟨#[c]⟩ n).length=n.toNat:=by
 have:(d3 ⟨#[c]⟩ n).cps.toList.length=(d3 ⟨#[c]⟩ n).length:=gg
 rw[<- this,Fj,bP]
theorem IU(w b s:Nat)(h:b+s<=w):d3 "." b++d3 "#" s++d3 "." ((w:Int) - b - s)=Cb (AE w (b,s)):=by
 apply JU;rw[s_hash,s_dot,EZ,EZ,Fj,Fj,Fj];show _=(AE w (b,s)).map sgn;unfold AE;rw[bB,bB,gA,gA,gA,b7,b7,show ((w:Int) - b - s).toNat=w - b - s by omega,aM]
 rfl
theorem II{T:Bool}{mu:Option Nat}{x y z:Int}{V:LS}{K:KV}(e:x+y=z)(h:K (.int z) V):binW T mu .Add (.int x) (.int y) V K:=by subst e;exact h
theorem pick_lo{w z B hi m f:Int}(Y:1<=z)(U:z<=w)(u:B<=hi)(T:hi<=w - 1)(O:m=max 0 (B - z+1))(d:0<=hi):0<=m/\B<=m+z - 1/\m<=w - z/\m<=hi:=by exact⟨lin [] [m,max 0 (B - z+1)] (.f K0 V0) [.H (-1) V0 V1,.f K0 V1] rfl O (Int.le_max_left (0) (B - z+1)),⟨lin [] [m,max 0 (B - z+1),B,z] (.f V2 (.S (.A V0 V3) K1)) [.H (-1) V0 V1,.f (.A (.S V2 V3) K1) V1] rfl O (du (0) (B - z+1)),⟨(Ct (0) (B - z+1)).elim (λy=>lin [] [z,w,m,max 0 (B - z+1)] (.f V2 (.S V1 V0)) [.f V0 V1,.h V2 V3,.h V3 K0] rfl U O y) (λy=>lin [] [B,hi,w,m,max 0 (B - z+1),z] (.f V3 (.S V2 V5)) [.f V0 V1,.f V1 (.S V2 K1),.h V3 V4,.h V4 (.A (.S V0 V5) K1)] rfl u T O y),(Ct (0) (B - z+1)).elim (λy=>lin [] [m,max 0 (B - z+1),hi] (.f V0 V2) [.h V0 V1,.f K0 V2,.h V1 K0] rfl O d y) (λy=>lin [] [z,B,hi,m,max 0 (B - z+1)] (.f V3 V2) [.f K1 V0,.f V1 V2,.h V3 V4,.h V4 (.A (.S V1 V0) K1)] rfl Y u O y)⟩⟩⟩
theorem IW{w sz:Nat}{z hi N:Int}(s1:1<=sz)(s2:sz<=w)(h1:0<=z)(h2:z<=hi)(h3:hi<=(w:Int) - 1) :
  ∃U:Nat,min ((w:Int) - sz) hi - max 0 (z - sz+1)+1≠0/\max 0 (z - sz+1)+N.fmod (min ((w:Int) - sz) hi - max 0 (z - sz+1)+1)=U/\U+sz<=w/\(U:Int)<=hi/\z<U+sz:=by
 refine B5 (pick_lo (f:=0) (dY.mpr s1) (dY.mpr s2) h2 h3 rfl (dh h1 h2)) λy T q3 q4=>?_;have B:max 0 (z - sz+1)<=min ((w:Int) - sz) hi:=Int.le_min.mpr ⟨q3,q4⟩;have Y:min ((w:Int) - sz) hi<=(w:Int) - sz:=Int.min_le_left _ _;have d:min ((w:Int) - sz) hi<=hi:=Int.min_le_right _ _;generalize max 0 (z - sz+1)=m at *;generalize min ((w:Int) - sz) hi=u at *;clear q3 q4 h1 h2 h3 s1 s2;have O:=AZ (a:=N) (b:=u - m+1) (by clear y T Y d;exact lin [] [m,u] (.g K0 (.A (.S V1 V0) K1)) [.f V0 V1] rfl B)
 generalize N.fmod (u - m+1)=r at O;refine X1p (cF (Int.add_nonneg y O.1)) λU e=>?_;refine⟨U,by clear e O y T Y d;exact λz0=>lin [] [m,u] .no [.f V0 V1,.h (.A (.S V1 V0) K1) K0] rfl B z0,e,?_,?_,?_⟩
 .clear y T B d;exact lin [w,sz,U] [u,r,m] (.b (.A V2 V1) V0) [.f V0 (.S (.c V0) (.c V1)),.g V1 (.A (.S V0 V2) K1),.H (-1) (.A V2 V1) (.c V2)] rfl Y O.2 e
 .clear y T B Y;exact lin [U] [u,hi,r,m] (.f (.c V0) V1) [.f V0 V1,.g V2 (.A (.S V0 V3) K1),.H (-1) (.A V3 V2) (.c V0)] rfl d O.2 e
 .clear y B Y d;exact lin [sz,U] [z,m,r] (.g V0 (.A (.c V1) (.c V0))) [.f V0 (.S (.A V1 (.c V0)) K1),.f K0 V2,.h (.A V1 V2) (.c V1)] rfl T O.1 e
theorem IV{ev:Bool}{w:Nat}{N:Int}(u:2<=w):∃z:Nat,(1<=z/\z<=w/\(ev=true->z % 2=0))/\((w:Int)≠0/\(w:Int).fdiv 2≠0)/\(match ev with
  |true=>2 * (1+N.fmod ((w:Int).fdiv 2))=(z:Int)
  |false=>1+N.fmod w=(z:Int)):=by
 have y:1<=(w:Int).fdiv 2/\2 * (w:Int).fdiv 2<=w:=by
  rw[Int.fdiv_eq_ediv_of_nonneg _ (by decide)];omega
 have ne:(w:Int)≠0/\(w:Int).fdiv 2≠0:=by omega
 cases ev
 .have hs:=AZ (a:=N) (b:=w) (lin [w] [] (.g K0 (.c V0)) [.b K2 V0] rfl u)
  obtain⟨z,hz⟩:=cF (show 0<=1+N.fmod w by clear y ne;exact lin [] [N.fmod ↑w] (.f K0 (.A K1 V0)) [.f K0 V0] rfl hs.1)
  refine⟨z,⟨?_,?_,λh=>(nF h)⟩,ne,hz⟩<;>(clear y ne;omega)
 .have hs:=AZ (a:=N) (b:=(w:Int).fdiv 2) (by omega)
  obtain⟨z,hz⟩:=cF (show 0<=1+N.fmod ((w:Int).fdiv 2) by clear y ne;omega)
  refine⟨2 * z,⟨?_,?_,λZ=>Nat.mul_mod_right _ _⟩,ne,?_⟩
  .clear y ne;omega
  .clear ne;omega
  .dsimp only;rw[hz];rfl
inductive QL(avs:List AV)(V:LS)(K:KR):Prop
 |mk (a:_)(b:_)(ev:_)(c0:avs=[.int a,.int b,.bool ev])(c1:V=[])(c2:∀w L,2<=w->w<=6->1<=L.length->L.length<=6->Strips ev w L->K ⟨[.list (AA (L.map (AE w)))],.new 0⟩ []):QL avs V K
noncomputable def Ls:FS:=specF λavs V K X=>QL avs V K
noncomputable abbrev rbM(a b:Int)(ev:Bool)(w:Nat)(f:Addr)(lo hi:Int)(u7 u8 u9 u10 u11:Option AV):M:=[some (.int a),some (.int b),some (.bool ev),some (.int w),some (.loc f 4),some (.int lo),some (.int hi),u7,u8,u9,u10,u11]
noncomputable abbrev rbS(w:Nat)(f:Addr)(L:List (Nat×Nat)):LS:=[.no,.no,.no,.no,.at f (.list (AA (L.map (AE w))))]
inductive RbJ(a b:Int)(ev:Bool)(w n:Nat)(f:Addr)(d r:List Int):M->LS->Prop
 |mk (hn:d.length+r.length=n)(L:List (Nat×Nat))(lo hi:Int)(u7 u8 u9 u10 u11:Option AV)(hL:L.length=d.length)(st:Strips ev w L)(h1:0<=lo)(h2:lo<=hi)(h3:hi<=(w:Int) - 1)(hl:∀p,L.getLast?=some p->lo=p.1/\hi=p.1+p.2 - 1):RbJ a b ev w n f d r (rbM a b ev w f lo hi u7 u8 u9 u10 u11) (rbS w f L)
theorem rb_last{L:List (Nat×Nat)}{U z:Nat}{y hi:Int}(O:∀p,L.getLast?=some p->y=p.1/\hi=p.1+p.2 - 1)(u:(U:Int)<=hi)(T:y<U+z)(p:Nat×Nat)(d:L.getLast?=some p):p.1<U+z/\U<p.1+p.2:=by
 refine Ao (O p d) λB Y=>?_;clear d O
 constructor
 .clear Y u;exact lin [U,z,p.fst] [y] (.c V2 (.A V0 V1)) [.g V0 (.A (.c V0) (.c V1)),.H (-1) V0 (.c V2)] rfl T B
 .clear B T;exact lin [U,p.fst,p.snd] [hi] (.c V0 (.A V1 V2)) [.f (.c V0) V0,.h V0 (.S (.A (.c V1) (.c V2)) K1)] rfl u Y
theorem rb_step{ex:List Nat}{X:XL}{a b:Int}{ev:Bool}{w n:Nat}{f:Addr}{lo hi y N:Int}{L:List (Nat×Nat)}{u9 u10 u11:Option AV}{sz:Nat}{KK:KS}(w6:w<=6)(d:L.length<=6)(Y:1<=sz)(z:sz<=w)(h1:0<=lo)(h2:lo<=hi)(h3:hi<=(w:Int) - 1)
  (h:∀U:Nat,U+sz<=w->(U:Int)<=hi->lo<U+sz->∀u10 u11,KK .next (rbM a b ev w f U (U+sz - 1) (some (.int y)) (some (.int N)) (some (.int sz)) u10 u11) (rbS w f (L++[(U,sz)]))) :
  wpSs ⟨true,ex,[(73,EI)],[],[]⟩ [.assign (.v 10) (.call (.g 14) [(.int 0),(.bin .Add (.bin .Sub (.v 5) (.v 9)) (.int 1))]),.assign (.v 11) (.bin .Add (.v 10) (.bin .Mod (.bin .FloorDiv (.v 8) (.int 30)) (.bin .Add (.bin .Sub (.call (.g 13) [(.bin .Sub (.v 3) (.v 9)),(.v 6)]) (.v 10)) (.int 1)))),.expr (.meth (.v 4) 0 [(.bin .Add (.bin .Add (.bin .Mult (.str ".") (.v 11)) (.bin .Mult (.str "#") (.v 9))) (.bin .Mult (.str ".") (.bin .Sub (.bin .Sub (.v 3) (.v 11)) (.v 9))))]),.assign (.tup [(.v 5),(.v 6)]) (.tup [(.v 11),(.bin .Sub (.bin .Add (.v 11) (.v 9)) (.int 1))])] X
   (rbM a b ev w f lo hi (some (.int y)) (some (.int N)) (some (.int sz)) u10 u11) (rbS w f L) KK:=by
 refine X1ppppp (IW (N:=N.fdiv 30) Y z h1 h2 h3) λU ne e O B T=>?_;refine⟨ne,II e ?_⟩;have bw:U<=6:=aw (aw (dO _ _) O) w6;have sw:sz<=6:=aw z w6;have m0:∀n:Int,-100<=n->n<=100->MulOk "." n:=λn h1 h2=>mul_ok (by decide) h2 h1
 have l0:∀n:Int,(d3 "." n).length=n.toNat:=λn=>by rw[s_dot];exact Ky _ _
 have l1:(d3 "#" sz).length=sz:=by rw[s_hash,Ky,b7]
 clear ne e h1 h2 h3;have u:-100<=(w:Int) - U - sz/\(w:Int) - U - sz<=100:=by clear B T Y z d;exact⟨lin [U,sz,w] [] (.f Km100 (.S (.S (.c V2) (.c V0)) (.c V1))) [.b (.A V0 V1) V2] rfl O,lin [w,U,sz] [] (.f (.S (.S (.c V0) (.c V1)) (.c V2)) FL) [.b V0 K6] rfl w6⟩
 refine⟨rfl,m0 _ (by clear u O B T Y z d;exact lin [U] [] (.f Km100 (.c V0)) [] rfl) (by clear u O B T Y z d;exact lin [U] [] (.f (.c V0) FL) [.b V0 K6] rfl bw),mul_ok (by decide) (by clear u O B T Y z d;exact lin [sz] [] (.f (.c V0) FL) [.b V0 K6] rfl sw) (by clear u O B T Y z d;exact lin [sz] [] (.f Km100 (.c V0)) [] rfl),At ?_,m0 _ u.1 u.2,At ?_,rfl,At ?_,?_⟩
 .rw[l0,l1,b7];exact aw (Nat.add_le_add bw sw) (by decide)
 .rw[app_len,l0,l1,l0,b7];clear B T Y z d;omega
 .rw[CK,an];exact aw d (by decide)
 .have:=h U O B T (some (.int (max 0 (lo - sz+1)))) (some (.int U))
  have e:rbS w f (L++[(U,sz)])=[.no,.no,.no,.no,.at f (.list (AA (L.map (AE w))++[.str (d3 "." U++d3 "#" sz++d3 "." ((w:Int) - U - sz))]))]:=by
   rw[IU w U sz O];show ([.no,.no,.no,.no,.at f (.list (AA ((L++[(U,sz)]).map (AE w))))]:LS)=_;rw[bB];unfold AA;rw[bB]
   rfl
  rw[e]at this;exact this
theorem rb_count{a:Int}:∃n:Nat,1+(a.fdiv 5).fmod 6=(n:Int)/\1<=n/\n<=6:=by
 have:=AZ (a:=a.fdiv 5) (b:=6) (by decide)
 obtain⟨n,O⟩:=cF (show 0<=1+(a.fdiv 5).fmod 6 by exact lin [] [(a.fdiv 5).fmod 6] (.f K0 (.A K1 V0)) [.f K0 V0] rfl this.1)
 exact⟨n,O,lin [n] [(a.fdiv 5).fmod 6] (.b K1 V0) [.f K0 V0,.h (.A K1 V0) (.c V0)] rfl this.1 O,lin [n] [(a.fdiv 5).fmod 6] (.b V0 K6) [.g V0 K6,.H (-1) (.A K1 V0) (.c V0)] rfl this.2 O⟩
theorem rb_width{a:Int}:∃n:Nat,2+a.fmod 5=(n:Int)/\2<=n/\n<=6:=by
 have:=AZ (a:=a) (b:=5) (by decide)
 obtain⟨n,O⟩:=cF (show 0<=2+a.fmod 5 by exact lin [] [a.fmod 5] (.f K0 (.A K2 V0)) [.f K0 V0] rfl this.1)
 exact⟨n,O,lin [n] [a.fmod 5] (.b K2 V0) [.f K0 V0,.h (.A K2 V0) (.c V0)] rfl this.1 O,lin [n] [a.fmod 5] (.b V0 K6) [.g V0 K5,.H (-1) (.A K2 V0) (.c V0)] rfl this.2 O⟩
theorem small_to{n:Nat}(h:n<=1000):cu 0 n 1=true:=CB (by decide) (by decide) (lin [n] [] (.f Bm (.c V0)) [] rfl) (lin [n] [] (.f (.c V0) Ay) [.b V0 AG] rfl h)
theorem J4{ex:List Nat}:FnOk ⟨true,ex,[(73,EI)],[],[]⟩ EQ .new 9 5 Ls:=by
 refine .specF λavs V K X h=>?_;obtain⟨a,b,ev,rfl,rfl,hK⟩:=h;refine X1ppp (rb_width (a:=a)) λw u Y w6=>?_;refine X1ppp (rb_count (a:=a)) λn O n1 n6=>?_;refine⟨rfl,λf=>⟨by rw[O];exact small_to (aw n6 (by decide)),?_⟩⟩
 rw[O,u];refine A7 (g:=.int) (J7 n) (RbJ a b ev w n f) ?_ ?_ (d:=[]) (.mk (by rw[Az];exact Nat.zero_add _) [] 0 ((w:Int) - 1) _ _ _ _ _ rfl Strips.nil (by decide) (by clear u O;exact lin [w] [] (.f K0 (.S (.c V0) K1)) [.b K2 V0] rfl Y) (eZ _) λZ h=>(nS h))
 .intro d m V j
  induction j using RbJ.casesOn with
  |mk z L lo hi u7 u8 u9 u10 u11 T st _ _ _ _ =>
   rw[c9,Nat.add_zero,<- T]at z;clear O;subst z;exact⟨rfl,hK w L Y w6 n1 n6 st⟩
 .intro d y r m V j C hC
  induction j using RbJ.casesOn with
  |mk z L lo hi u7 u8 u9 u10 u11 T st h1 h2 h3 hl =>
   obtain⟨B,⟨s1,s2,s3⟩,⟨ne1,ne2⟩,hs⟩:=IV (ev:=ev) (N:=(b * 48271+7919 * y+11).fmod 2147483647) Y;have go:=rb_step (ex:=ex) (X:=λe τ=>X e (ib ([]:LS).length τ)) (a:=a) (b:=b) (ev:=ev) (n:=n) (f:=f) (y:=y) (N:=(b * 48271+7919 * y+11).fmod 2147483647) (u9:=u9) (u10:=u10) (u11:=u11) (KK:=G4 aa (rbS w f L) C (kSeq (wpSs ⟨true,ex,[(73,EI)],[],[]⟩ [.ret (.v 4)] λe τ=>X e (ib ([]:LS).length τ)) λfl Z τ=>GN .new ([]:LS).length (flV fl) τ K)) w6 (by rw[T];clear O u;exact lin [n,d.length,(y::r).length] [] (.b V1 K6) [.b V0 K6,.d (.A V1 V2) V0] rfl n6 z) s1 s2 h1 h2 h3 λU b1 b2 b3 v10 v11=>hC _ _ (.mk (by rw[aE];clear O u;exact(Nat.add_assoc _ _ _).trans ((congrArg _ (Nat.add_comm _ _)).trans z)) (L++[(U,B)]) U (U+B - 1) _ _ _ _ _ (by rw[aE,aE,T];rfl) (st.snoc ⟨s1,b1,s3⟩ (rb_last hl b2 b3)) (lin [U] [] (.f K0 (.c V0)) [] rfl) (by clear O u;exact lin [B,U] [] (.f (.c V1) (.S (.A (.c V1) (.c V0)) K1)) [.b K1 V0] rfl s1) (by clear O u;exact lin [U,B,w] [] (.f (.S (.A (.c V0) (.c V1)) K1) (.S (.c V2) K1)) [.b (.A V0 V1) V2] rfl b1) λp hp=>by
     rw[List.getLast?_append,List.getLast?_singleton,Option.some_or]at hp;obtain rfl:=ae hp;exact⟨rfl,rfl⟩)
   cases ev
   .refine⟨ne1,?_⟩
    refine II hs go
   .refine⟨ne2,?_⟩
    refine⟨hW (by decide +kernel),?_⟩
    rw[show (2:Int) * (1+((b * 48271+7919 * y+11).fmod 2147483647).fmod ((w:Int).fdiv 2))=_ from hs]
    exact go
end
section
theorem Reach.trans{P:List Sp}{a b c:Sp}(h:Reach P a b)(g:Reach P b c):Reach P a c:=by
 induction g with|refl=>exact h|step _ n m y=>exact .step y n m
theorem Reach.symm{P:List Sp}{a b:Sp}(ha:a∈P)(h:Reach P a b):Reach P b a:=by
 induction h with
 |refl=>exact .refl
 |step g n m y =>
  refine Reach.trans (.step .refl (BC n) ?_) y;exact g.mem.elim (λe=>e▸ha) id
theorem Reach.into{P Q:List Sp}{a b:Sp}(f:Sp->Sp)(T:∀c∈P,f c∈Q)(O:∀c k,c∈A4 k->f c∈A4 (f k))(h:Reach P a b):Reach Q (f a) (f b):=by
 induction h with|refl=>exact .refl|step _ n m y=>exact .step y (O _ _ n) (T _ m)
noncomputable def sw(k:Sp):Sp:=(k.2,k.1)
theorem GG(c k:Sp)(h:c∈A4 k):sw c∈A4 (sw k):=by
 cases Fh h with|u=>exact AX .l|l=>exact AX .u|r=>exact AX .d|d=>exact AX .r
theorem EB{x y:Int}:(x - 1,y)∈A4 (x,y):=.tail _ (.head _)
theorem EA{x y:Int}:(x,y - 1)∈A4 (x,y):=.head _
theorem near_d{x y:Int}:(x,y+1)∈A4 (x,y):=.tail _ (.tail _ (.tail _ (.head _)))
theorem Ha{P:List Sp}{y:Int}:∀{n:Nat}{x:Int},(∀i:Nat,i<=n->(x - i,y)∈P)->Reach P (x,y) (x - n,y)
 |0,x,_=>by rw[show x - ((0:Nat):Int)=x by exact ai (lin [] [x] (.f (.S V0 (.c K0)) V0) [] rfl) (lin [] [x] (.f V0 (.S V0 (.c K0))) [] rfl)];exact .refl
 |n+1,x,h=>by
  refine .step (Ha (n:=n) λi hi=>h i (lin [i,n] [] (.b V0 (.A V1 K1)) [.b V0 V1] rfl hi)) ?_ (h (n+1) (ay _));rw[show x - ((n+1:Nat):Int)=x - n - 1 by exact ai (lin [n] [x] (.f (.S V0 (.c (.A V0 K1))) (.S (.S V0 (.c V0)) K1)) [] rfl) (lin [n] [x] (.f (.S (.S V0 (.c V0)) K1) (.S V0 (.c (.A V0 K1)))) [] rfl)]
  exact EB
theorem go_up{P:List Sp}{x:Int}:∀{n:Nat}{y:Int},(∀i:Nat,i<=n->(x,y - i)∈P)->Reach P (x,y) (x,y - n)
 |0,y,_=>by rw[show y - ((0:Nat):Int)=y by exact ai (lin [] [y] (.f (.S V0 (.c K0)) V0) [] rfl) (lin [] [y] (.f V0 (.S V0 (.c K0))) [] rfl)];exact .refl
 |n+1,y,h=>by
  refine .step (go_up (n:=n) λi hi=>h i (lin [i,n] [] (.b V0 (.A V1 K1)) [.b V0 V1] rfl hi)) ?_ (h (n+1) (ay _));rw[show y - ((n+1:Nat):Int)=y - n - 1 by exact ai (lin [n] [y] (.f (.S V0 (.c (.A V0 K1))) (.S (.S V0 (.c V0)) K1)) [] rfl) (lin [n] [y] (.f (.S (.S V0 (.c V0)) K1) (.S V0 (.c (.A V0 K1)))) [] rfl)]
  exact EA
theorem F7{P:List Sp}{x z y:Int}(h:∀u,(z<=u/\u<=x)\/(x<=u/\u<=z)->(u,y)∈P):Reach P (x,y) (z,y):=by
 by_cases q:z<=x
 .have:=Ha (P:=P) (y:=y) (n:=(x - z).toNat) (x:=x) λi hi=>h _ (.inl (⟨lin [i,(x - z).toNat] [x,z] (.f V1 (.S V0 (.c V0))) [.b V0 V1,.h (.c V1) (.S V0 V1)] rfl hi (ao (lin [] [z,x] (.f K0 (.S V1 V0)) [.f V0 V1] rfl q)),lin [i] [x] (.f (.S V0 (.c V0)) V0) [] rfl⟩))
  rw[show x - ((x - z).toNat:Int)=z by exact ai (lin [(x - z).toNat] [x,z] (.f (.S V0 (.c V0)) V1) [.f (.S V0 V1) (.c V0)] rfl (aI (x - z))) (lin [(x - z).toNat] [x,z] (.f V1 (.S V0 (.c V0))) [.h (.c V0) (.S V0 V1)] rfl (ao (lin [] [z,x] (.f K0 (.S V1 V0)) [.f V0 V1] rfl q)))]at this;exact this
 .have:=Ha (P:=P) (y:=y) (n:=(z - x).toNat) (x:=z) λi hi=>h _ (.inr (⟨lin [i,(z - x).toNat] [z,x] (.f V1 (.S V0 (.c V0))) [.b V0 V1,.h (.c V1) (.S V0 V1)] rfl hi (ao (lin [] [z,x] (.f K0 (.S V0 V1)) [.k V0 V1] rfl q)),lin [i] [z] (.f (.S V0 (.c V0)) V0) [] rfl⟩))
  rw[show z - ((z - x).toNat:Int)=x by exact ai (lin [(z - x).toNat] [z,x] (.f (.S V0 (.c V0)) V1) [.f (.S V0 V1) (.c V0)] rfl (aI (z - x))) (lin [(z - x).toNat] [z,x] (.f V1 (.S V0 (.c V0))) [.h (.c V0) (.S V0 V1)] rfl (ao (lin [] [z,x] (.f K0 (.S V0 V1)) [.k V0 V1] rfl q)))]at this
  exact this.symm (h z (.inr (⟨lin [] [z,x] (.f V1 V0) [.k V0 V1] rfl q,lin [] [z] (.f V0 V0) [] rfl⟩)))
theorem go_col{P:List Sp}{x y z:Int}(hz:z<=y)(h:∀u,z<=u/\u<=y->(x,u)∈P):Reach P (x,y) (x,z):=by
 have:=go_up (P:=P) (x:=x) (n:=(y - z).toNat) (y:=y) λi hi=>h _ (⟨lin [i,(y - z).toNat] [y,z] (.f V1 (.S V0 (.c V0))) [.b V0 V1,.h (.c V1) (.S V0 V1)] rfl hi (ao (lin [] [z,y] (.f K0 (.S V1 V0)) [.f V0 V1] rfl hz)),lin [i] [y] (.f (.S V0 (.c V0)) V0) [] rfl⟩)
 rw[show y - ((y - z).toNat:Int)=z by exact ai (lin [(y - z).toNat] [y,z] (.f (.S V0 (.c V0)) V1) [.f (.S V0 V1) (.c V0)] rfl (aI (y - z))) (lin [(y - z).toNat] [y,z] (.f V1 (.S V0 (.c V0))) [.h (.c V0) (.S V0 V1)] rfl (ao (lin [] [z,y] (.f K0 (.S V1 V0)) [.f V0 V1] rfl hz)))]at this;exact this
theorem Ed{w:Nat}{p:Nat×Nat}(h:p.1+p.2<=w){x:Int}:bit (AE w p) x↔(p.1:Int)<=x/\x<p.1+p.2:=by
 unfold bit AE;have key:∀n:Nat,(aP p.1 false++(aP p.2 true++aP (w - p.1 - p.2) false))[n]?=some true↔p.1<=n/\n<p.1+p.2:=λn=>by
  rcases bL n p.1 with z|z
  .rw[ce (by rw[bP];exact z),dR,if_pos z]
   exact⟨λh=>(by cases h),λh=>(Nat.not_le_of_lt z h.1).elim⟩
  .rw[bn (by rw[bP];exact z),bP]
   rcases bL (n - p.1) p.2 with T|T
   .rw[ce (by rw[bP];exact T),dR,if_pos T]
    exact⟨λZ=>⟨z,lin [n - p.fst,p.snd,n,p.fst] [] (.c V2 (.A V3 V1)) [.c V0 V1,.b V2 (.A V3 V0)] rfl T (aq.mp (ay ((n) - (p.fst))))⟩,λZ=>rfl⟩
   .rw[bn (by rw[bP];exact T),bP,dR]
    refine⟨λy=>?_,λy=>(cT.mpr T (lin [n,p.fst,p.snd,n - p.fst] [] (.c V3 V2) [.c V0 (.A V1 V2),.d (.A V3 V1) V0] rfl y.2 (ak (lin [p.fst,n] [] (.b V0 V1) [.b V0 V1] rfl z)))).elim⟩
    by_cases q:n - p.1 - p.2<w - p.1 - p.2
    .rw[if_pos q]at y;cases y
    .rw[if_neg q]at y;exact nS y
 rw[key];exact⟨λO=>⟨lin [p.fst,x.toNat] [x] (.f (.c V0) V0) [.b V0 V1,.h (.c V1) V0] rfl O.2.1 (ao (lin [] [x] (.f K0 V0) [.f K0 V0] rfl O.1)),lin [x.toNat,p.fst,p.snd] [x] (.g V0 (.A (.c V1) (.c V2))) [.c V0 (.A V1 V2),.f V0 (.c V0)] rfl O.2.2 (aI x)⟩,λO=>⟨lin [p.fst] [x] (.f K0 V0) [.f (.c V0) V0] rfl O.1,⟨lin [p.fst,x.toNat] [x] (.b V0 V1) [.f (.c V0) V0,.f V0 (.c V1)] rfl O.1 (aI x),lin [p.fst,p.snd,x.toNat] [x] (.c V2 (.A V0 V1)) [.g V0 (.A (.c V0) (.c V1)),.h (.c V2) V0] rfl O.2 (ao (lin [p.fst] [x] (.f K0 V0) [.f (.c V0) V0] rfl O.1))⟩⟩⟩
theorem JT{w:Nat}{p:Nat×Nat}(h:p.1+p.2<=w):(AE w p).length=w:=by
 unfold AE;rw[aE,aE,bP,bP,bP];exact ar (lin [w - p.fst - p.snd,p.snd,w - p.fst,p.fst,w] [] (.b (.A V3 (.A V1 V0)) V4) [.d (.A V0 V1) V2,.d (.A V2 V3) V4] rfl (ak (lin [p.fst,p.snd,w,w - p.fst] [] (.b V1 V3) [.b (.A V0 V1) V2,.b V2 (.A V0 V3)] rfl h (aq.mp (ay ((w) - (p.fst)))))) (ak (lin [p.fst,p.snd,w] [] (.b V0 V2) [.b (.A V0 V1) V2] rfl h))) (lin [w - p.fst,p.snd,w - p.fst - p.snd,w,p.fst] [] (.b V3 (.A V4 (.A V1 V2))) [.b V0 (.A V1 V2),.b V3 (.A V4 V0)] rfl (aq.mp (ay ((w - p.fst) - (p.snd)))) (aq.mp (ay ((w) - (p.fst)))))
theorem AN{ev:Bool}{w:Nat}{L:List (Nat×Nat)}(st:Strips ev w L){k:Sp}:k∈Ae (L.map (AE w))↔0<=k.2/\∃p,L[k.2.toNat]?=some p/\(p.1:Int)<=k.1/\k.1<p.1+p.2:=by
 rw[cellsOf_mem];unfold has
 constructor
 .intro u
  refine Ao u λh T=>?_;refine X1pp T λr Y z=>?_;rw[aT]at Y
  cases hp:L[k.2.toNat]? with
  |none=>rw[hp]at Y;exact nS Y
  |some p =>
   rw[hp]at Y;obtain rfl:=ae Y;exact⟨h,p,rfl,(Ed (st.ok p (ag hp)).2.1).mp z⟩
 .intro u
  refine Ao u λh y=>?_;refine X1pp y λp Y z=>?_;exact⟨h,AE w p,by rw[aT,Y];rfl,(Ed (st.ok p (ag Y)).2.1).mpr z⟩
theorem GH{ev:Bool}{w:Nat}{L:List (Nat×Nat)}(st:Strips ev w L)(Y:1<=L.length)(O:L.length<=6)(u:2<=w)(y:w<=6):Grid (L.map (AE w)) w:=by
 refine⟨by rw[an];exact Y,by rw[an];exact O,lin [w] [] (.b K1 V0) [.b K2 V0] rfl u,y,λr z=>?_⟩
 refine X1pr r (aW.mp z) λp d=>?_;exact JT (st.ok p d).2.1
def Ma(P:List Sp):Prop:=∀a∈P,∀b∈P,Reach P a b
theorem Er{ev:Bool}{w:Nat}{L:List (Nat×Nat)}(st:Strips ev w L){a b:Sp}(ha:a∈Ae (L.map (AE w)))(d:b∈Ae (L.map (AE w)))(e:a.2=b.2):Reach (Ae (L.map (AE w))) a b:=by
 obtain⟨x,y⟩:=a;obtain⟨z,v⟩:=b;dsimp only at e;subst e;refine Ao ((AN st).mp ha) λB Z0=>?_;refine X1pp Z0 λp T Y=>?_;refine Ao ((AN st).mp d) λZ Z1=>?_;refine X1pp Z1 λq k2 k3=>?_;dsimp only at T k2 Y k3;rw[T]at k2;obtain rfl:=ae k2;refine F7 λu U=>(AN st).mpr ⟨B,p,T,?_⟩;dsimp only;exact⟨U.elim (λO=>lin [p.fst] [z,u] (.f (.c V0) V1) [.f (.c V0) V0,.f V0 V1] rfl k3.1 O.1) (λO=>lin [p.fst] [x,u] (.f (.c V0) V1) [.f (.c V0) V0,.f V0 V1] rfl Y.1 O.1),U.elim (λO=>lin [p.fst,p.snd] [x,u] (.g V1 (.A (.c V0) (.c V1))) [.g V0 (.A (.c V0) (.c V1)),.f V1 V0] rfl Y.2 O.2) (λO=>lin [p.fst,p.snd] [z,u] (.g V1 (.A (.c V0) (.c V1))) [.g V0 (.A (.c V0) (.c V1)),.f V1 V0] rfl k3.2 O.2)⟩
theorem Cq{ev:Bool}{w:Nat}{L:List (Nat×Nat)}(st:Strips ev w L):∀(n:Nat){a b:Sp},a∈Ae (L.map (AE w))->b∈Ae (L.map (AE w))->b.2=a.2+n->Reach (Ae (L.map (AE w))) a b
 |0,a,b,ha,hb,e=>Er st ha hb (ai (lin [] [b.snd,a.snd] (.f V1 V0) [.H (-1) V0 (.A V1 (.c K0))] rfl e) (lin [] [b.snd,a.snd] (.f V0 V1) [.h V0 (.A V1 (.c K0))] rfl e))
 |n+1,a,b,ha,hb,e=>by
  refine Ao ((AN st).mp ha) λY Z0=>?_;refine X1pp Z0 λp T O=>?_;refine Ao ((AN st).mp hb) λk1 Z1=>?_;refine X1pp Z1 λq k2 k3=>?_;have hl:a.2.toNat+1<L.length:=by
   rcases bL b.2.toNat L.length with z|z
   .exact lin [n,b.snd.toNat,L.length,a.snd.toNat] [b.snd,a.snd] (.c (.A V3 K1) V2) [.H (-1) V0 (.A V1 (.c (.A V0 K1))),.c V1 V2,.f V0 (.c V1),.h (.c V3) V1] rfl e z (aI b.snd) (ao (lin [] [a.snd] (.f K0 V0) [.f K0 V0] rfl Y))
   .rw[aX z]at k2;exact nS k2
  have y:L[a.2.toNat+1]?=some L[a.2.toNat+1]:=aA hl;generalize L[a.2.toNat+1]=r at y;have U:=st.ch _ p r T y;have u:=st.ok r (ag y);have pok:=st.ok p (ag T);obtain⟨x,hx⟩:∃x:Nat,x=max p.1 r.1:=⟨_,rfl⟩;have c1:((x:Int),a.2)∈Ae (L.map (AE w)):=(AN st).mpr ⟨Y,p,T,by dsimp only;exact⟨lin [x,max p.fst r.fst,p.fst] [] (.f (.c V2) (.c V0)) [.D (-1) V0 V1,.b V2 V1] rfl hx (Nat.le_max_left p.fst r.fst),(Kt p.fst r.fst).elim (λB=>lin [p.fst,p.snd,x,max p.fst r.fst] [a.fst] (.g (.c V2) (.A (.c V0) (.c V1))) [.f (.c V0) V0,.g V0 (.A (.c V0) (.c V1)),.d V2 V3,.d V3 V0] rfl O.1 O.2 hx B) (λB=>lin [r.fst,p.fst,p.snd,x,max p.fst r.fst] [] (.g (.c V3) (.A (.c V1) (.c V2))) [.c V0 (.A V1 V2),.d V3 V4,.d V4 V0] rfl U.2 hx B)⟩⟩
  have c2:((x:Int),a.2+1)∈Ae (L.map (AE w)):=(AN st).mpr ⟨by dsimp only;exact lin [] [a.snd] (.f K0 (.A V0 K1)) [.f K0 V0] rfl Y,r,by dsimp only;rw[show (a.2+1).toNat=a.2.toNat+1 by exact ar (lin [a.snd.toNat,(a.snd+1).toNat] [a.snd] (.b V1 (.A V0 K1)) [.f V0 (.c V0),.h (.c V1) (.A V0 K1)] rfl (aI a.snd) (ao (lin [] [a.snd] (.f K0 (.A V0 K1)) [.f K0 V0] rfl Y))) (lin [(a.snd+1).toNat,a.snd.toNat] [a.snd] (.b (.A V1 K1) V0) [.f (.A V0 K1) (.c V0),.h (.c V1) V0] rfl (aI (a.snd+1)) (ao (lin [] [a.snd] (.f K0 V0) [.f K0 V0] rfl Y)))];exact y,by dsimp only;exact⟨lin [x,max p.fst r.fst,r.fst] [] (.f (.c V2) (.c V0)) [.D (-1) V0 V1,.b V2 V1] rfl hx (Nat.le_max_right p.fst r.fst),(Kt p.fst r.fst).elim (λB=>lin [p.fst,r.fst,r.snd,x,max p.fst r.fst] [] (.g (.c V3) (.A (.c V1) (.c V2))) [.c V0 (.A V1 V2),.d V3 V4,.d V4 V0] rfl U.1 hx B) (λB=>lin [r.snd,x,max p.fst r.fst,r.fst] [] (.g (.c V1) (.A (.c V3) (.c V0))) [.b K1 V0,.d V1 V2,.d V2 V3] rfl u.1 hx B)⟩⟩
  exact Reach.trans (.step (Er st ha c1 rfl) near_d c2) (Cq st n c2 hb (by dsimp only;exact ai (lin [n] [b.snd,a.snd] (.f V0 (.A (.A V1 K1) (.c V0))) [.h V0 (.A V1 (.c (.A V0 K1)))] rfl e) (lin [n] [b.snd,a.snd] (.f (.A (.A V1 K1) (.c V0)) V0) [.H (-1) V0 (.A V1 (.c (.A V0 K1)))] rfl e)))
theorem Cy{ev:Bool}{w:Nat}{L:List (Nat×Nat)}(st:Strips ev w L):Ma (Ae (L.map (AE w))):=by
 intro a ha b z
 by_cases h:a.2<=b.2
 .exact Cq st (b.2 - a.2).toNat ha z (ai (lin [(b.snd - a.snd).toNat] [b.snd,a.snd] (.f V0 (.A V1 (.c V0))) [.f (.S V0 V1) (.c V0)] rfl (aI (b.snd - a.snd))) (lin [(b.snd - a.snd).toNat] [b.snd,a.snd] (.f (.A V1 (.c V0)) V0) [.h (.c V0) (.S V0 V1)] rfl (ao (lin [] [a.snd,b.snd] (.f K0 (.S V1 V0)) [.f V0 V1] rfl h))))
 .exact(Cq st (a.2 - b.2).toNat z ha (ai (lin [(a.snd - b.snd).toNat] [a.snd,b.snd] (.f V0 (.A V1 (.c V0))) [.f (.S V0 V1) (.c V0)] rfl (aI (a.snd - b.snd))) (lin [(a.snd - b.snd).toNat] [a.snd,b.snd] (.f (.A V1 (.c V0)) V0) [.h (.c V0) (.S V0 V1)] rfl (ao (lin [] [a.snd,b.snd] (.f K0 (.S V0 V1)) [.k V0 V1] rfl h))))).symm z
theorem Es{ev:Bool}{w:Nat}{L:List (Nat×Nat)}(st:Strips ev w L){k:Sp}(hk:k∈AL (Ae (L.map (AE w))) w L.length):Reach (AL (Ae (L.map (AE w))) w L.length) k (-1,-1):=by
 obtain⟨x,y⟩:=k;obtain⟨⟨⟨x1,x2⟩,y1,y2⟩,hn⟩:=around_mem.mp hk;dsimp only at x1 x2 y1 y2;have out:∀u v:Int,-1<=u->u<=w->-1<=v->v<=L.length->(u<0\/(w:Int)<=u\/v<0\/(L.length:Int)<=v)->(u,v)∈AL (Ae (L.map (AE w))) w L.length:=λu v a b c d e=>by
  refine around_mem.mpr ⟨⟨⟨a,b⟩,c,d⟩,λq=>?_⟩;refine Ao ((AN st).mp q) λq1 Z0=>?_;refine X1pp Z0 λp q2 q3=>?_;dsimp only at q1 q2 q3;have pok:=st.ok p (ag q2)
  have:v.toNat<L.length:=by
   rcases bL v.toNat L.length with z|z
   .exact z
   .rw[aX z]at q2;exact nS q2
  exact e.elim (λU=>lin [p.fst] [u] .no [.f (.c V0) V0,.g V0 K0] rfl q3.1 U) (λU=>U.elim (λO=>lin [p.fst,p.snd,w] [u] .no [.g V0 (.A (.c V0) (.c V1)),.b (.A V0 V1) V2,.f (.c V2) V0] rfl q3.2 pok.2.1 O) (λO=>O.elim (λB=>lin [] [v] .no [.f K0 V0,.g V0 K0] rfl q1 B) (λB=>lin [v.toNat,L.length] [v] .no [.c V0 V1,.f V0 (.c V0),.f (.c V1) V0] rfl this (aI v) B)))
 have left:∀v:Int,-1<=v->v<=L.length->Reach (AL (Ae (L.map (AE w))) w L.length) (-1,v) (-1,-1):=λv a b=>go_col a λu T=>out _ _ (lin [] [] (.f Km1 Km1) [] rfl) (lin [w] [] (.f Km1 (.c V0)) [] rfl) (lin [] [u] (.f Km1 V0) [.f Km1 V0] rfl T.1) (lin [L.length] [v,u] (.f V1 (.c V0)) [.f V0 (.c V0),.f V1 V0] rfl b T.2) (.inl (lin [] [] (.g Km1 K0) [] rfl))
 by_cases Y:0<=y/\y<L.length
 .have hl:y.toNat<L.length:=by exact lin [L.length,y.toNat] [y] (.c V1 V0) [.g V0 (.c V0),.h (.c V1) V0] rfl Y.2 (ao (lin [] [y] (.f K0 V0) [.f K0 V0] rfl Y.1))
  have hp:L[y.toNat]?=some L[y.toNat]:=aA hl;generalize L[y.toNat]=p at hp;have free:∀u:Int,-1<=u->u<=w->¬((p.1:Int)<=u/\u<p.1+p.2)->(u,y)∈AL (Ae (L.map (AE w))) w L.length:=λu a b c=>by
   refine around_mem.mpr ⟨⟨⟨a,b⟩,by dsimp only;exact lin [] [y] (.f Km1 V0) [.f K0 V0] rfl Y.1,by dsimp only;exact lin [L.length] [y] (.f V0 (.c V0)) [.g V0 (.c V0)] rfl Y.2⟩,λq=>?_⟩
   refine Ao ((AN st).mp q) λZ Z1=>?_;refine X1pp Z1 λp' q2 q3=>?_;dsimp only at q2 q3;rw[hp]at q2;obtain rfl:=ae q2;exact c q3
  have nx:¬((p.1:Int)<=x/\x<p.1+p.2):=λq=>hn ((AN st).mpr ⟨Y.1,p,hp,q⟩)
  by_cases hx:x<p.1
  .exact Reach.trans (F7 λu T=>free u (by exact(aV.mp nx).elim (λU=>T.elim (λO=>lin [] [u] (.f Km1 V0) [.f Km1 V0] rfl O.1) (λO=>lin [] [x,u] (.f Km1 V1) [.f Km1 V0,.f V0 V1] rfl x1 O.1)) (λU=>lin [p.fst,p.snd] [x,u] (.F 0 Km1 V1) [.g V0 (.c V0),.l V0 (.A (.c V0) (.c V1))] rfl hx U)) (by exact(aV.mp nx).elim (λU=>T.elim (λO=>lin [w] [x,u] (.f V1 (.c V0)) [.f V0 (.c V0),.f V1 V0] rfl x2 O.2) (λO=>lin [w] [u] (.f V0 (.c V0)) [.f V0 Km1] rfl O.2)) (λU=>lin [p.fst,p.snd,w] [x,u] (.F 0 V1 (.c V2)) [.g V0 (.c V0),.l V0 (.A (.c V0) (.c V1))] rfl hx U)) (by exact λU=>(aV.mp nx).elim (λO=>T.elim (λB=>lin [p.fst] [x,u] .no [.g V0 (.c V0),.f (.c V0) V1,.f V1 V0] rfl hx U.1 B.2) (λB=>lin [p.fst] [u] .no [.f (.c V0) V0,.f V0 Km1] rfl U.1 B.2)) (λO=>lin [p.fst,p.snd] [x] .no [.g V0 (.c V0),.l V0 (.A (.c V0) (.c V1))] rfl hx O))) (left y (by exact lin [] [y] (.f Km1 V0) [.f K0 V0] rfl Y.1) (by exact lin [L.length] [y] (.f V0 (.c V0)) [.g V0 (.c V0)] rfl Y.2))
  .refine Reach.trans (b:=((w:Int),y)) (F7 λu T=>free u ((aV.mp nx).elim (λU=>lin [p.fst] [x,u] (.F 0 Km1 V1) [.l V0 (.c V0),.k (.c V0) V0] rfl hx U) (λU=>T.elim (λO=>lin [w] [u] (.f Km1 V0) [.f (.c V0) V0] rfl O.1) (λO=>lin [p.fst] [x,u] (.f Km1 V1) [.l V0 (.c V0),.f V0 V1] rfl hx O.1))) ((aV.mp nx).elim (λU=>lin [p.fst,w] [x,u] (.F 0 V1 (.c V1)) [.l V0 (.c V0),.k (.c V0) V0] rfl hx U) (λU=>T.elim (λO=>lin [w] [x,u] (.f V1 (.c V0)) [.f V0 (.c V0),.f V1 V0] rfl x2 O.2) (λO=>lin [w] [u] (.f V0 (.c V0)) [.f V0 (.c V0)] rfl O.2))) (λU=>(aV.mp nx).elim (λO=>lin [p.fst] [x] .no [.l V0 (.c V0),.k (.c V0) V0] rfl hx O) (λO=>T.elim (λB=>lin [w,p.fst,p.snd] [x,u] .no [.f V0 (.c V0),.g V1 (.A (.c V1) (.c V2)),.l V0 (.A (.c V1) (.c V2)),.f (.c V0) V1] rfl x2 U.2 O B.1) (λB=>lin [p.fst,p.snd] [u,x] .no [.g V0 (.A (.c V0) (.c V1)),.l V1 (.A (.c V0) (.c V1)),.f V1 V0] rfl U.2 O B.1)))) ?_
   refine Reach.trans (b:=((w:Int),-1)) (go_col (lin [] [y] (.f Km1 V0) [.f K0 V0] rfl Y.1) λu T=>out _ _ (lin [w] [] (.f Km1 (.c V0)) [] rfl) (lin [w] [] (.f (.c V0) (.c V0)) [] rfl) (lin [] [u] (.f Km1 V0) [.f Km1 V0] rfl T.1) (lin [L.length] [y,u] (.f V1 (.c V0)) [.g V0 (.c V0),.f V1 V0] rfl Y.2 T.2) (.inr (.inl (lin [w] [] (.f (.c V0) (.c V0)) [] rfl)))) ?_;exact F7 λu T=>out _ _ ((aV.mp nx).elim (λU=>lin [p.fst] [x,u] (.F 0 Km1 V1) [.l V0 (.c V0),.k (.c V0) V0] rfl hx U) (λU=>T.elim (λO=>lin [] [u] (.f Km1 V0) [.f Km1 V0] rfl O.1) (λO=>lin [w] [u] (.f Km1 V0) [.f (.c V0) V0] rfl O.1))) ((aV.mp nx).elim (λU=>lin [p.fst,w] [x,u] (.F 0 V1 (.c V1)) [.l V0 (.c V0),.k (.c V0) V0] rfl hx U) (λU=>T.elim (λO=>lin [w] [u] (.f V0 (.c V0)) [.f V0 (.c V0)] rfl O.2) (λO=>lin [w] [u] (.f V0 (.c V0)) [.f V0 Km1] rfl O.2))) (lin [] [] (.f Km1 Km1) [] rfl) (lin [L.length] [] (.f Km1 (.c V0)) [] rfl) (.inr (.inr (.inl (lin [] [] (.g Km1 K0) [] rfl))))
 .refine Reach.trans (b:=(-1,y)) (F7 λu T=>out _ _ ((aV.mp Y).elim (λU=>T.elim (λO=>lin [] [u] (.f Km1 V0) [.f Km1 V0] rfl O.1) (λO=>lin [] [x,u] (.f Km1 V1) [.f Km1 V0,.f V0 V1] rfl x1 O.1)) (λU=>T.elim (λO=>lin [] [u] (.f Km1 V0) [.f Km1 V0] rfl O.1) (λO=>lin [] [x,u] (.f Km1 V1) [.f Km1 V0,.f V0 V1] rfl x1 O.1))) ((aV.mp Y).elim (λU=>T.elim (λO=>lin [w] [x,u] (.f V1 (.c V0)) [.f V0 (.c V0),.f V1 V0] rfl x2 O.2) (λO=>lin [w] [u] (.f V0 (.c V0)) [.f V0 Km1] rfl O.2)) (λU=>T.elim (λO=>lin [w] [x,u] (.f V1 (.c V0)) [.f V0 (.c V0),.f V1 V0] rfl x2 O.2) (λO=>lin [w] [u] (.f V0 (.c V0)) [.f V0 Km1] rfl O.2))) (lin [] [y] (.f Km1 V0) [.f Km1 V0] rfl y1) (lin [L.length] [y] (.f V0 (.c V0)) [.f V0 (.c V0)] rfl y2) (.inr (.inr (bT λU=>(aV.mp Y).elim (λO=>lin [] [y] .no [.l V0 K0,.k K0 V0] rfl (λz=>U (.inl z)) O) (λO=>lin [L.length] [y] .no [.k (.c V0) V0,.l V0 (.c V0)] rfl (λz=>U (.inr z)) O))))) (left y (lin [] [y] (.f Km1 V0) [.f Km1 V0] rfl y1) (lin [L.length] [y] (.f V0 (.c V0)) [.f V0 (.c V0)] rfl y2))
end
section
theorem Flo.of{G:Gr}{w:Nat}(g:Grid G w)(d:Ae G≠[])(j:Ma (Ae G))(o:∀k∈AL (Ae G) w G.length,Reach (AL (Ae G) w G.length) k (-1,-1)):Flo G w:=by
 refine⟨g,?_,λk B=>(o k B).symm B⟩
 cases e:Ae G with
 |nil=>exact absurd e d
 |cons a u =>
  refine⟨a,u,rfl,λk B=>?_⟩;rw[<- e]at B ⊢;exact j a (by rw[e];exact .head _) k B
theorem IS{ev:Bool}{w:Nat}{L:List (Nat×Nat)}(u:2<=w)(y:w<=6)(Y:1<=L.length)(O:L.length<=6)(st:Strips ev w L):Flo (L.map (AE w)) w:=by
 refine Flo.of (GH st Y O u y) ?_ (Cy st) λk B=>?_
 .cases L with
  |nil=>exact absurd Y (by decide)
  |cons p L =>
   have T:=st.ok p (.head _);intro e
   have:((p.1:Int),(0:Int))∈Ae ((p::L).map (AE w)):=(AN st).mpr ⟨eZ _,p,rfl,by dsimp only;exact⟨lin [p.fst] [] (.f (.c V0) (.c V0)) [] rfl,lin [p.snd,p.fst] [] (.g (.c V1) (.A (.c V1) (.c V0))) [.b K1 V0] rfl T.1⟩⟩
   rw[e]at this;exact nM this
 .rw[an]at B ⊢
  exact Es st B
theorem G6{a:Int}:∀{n i:Nat},i<n->(ivs a n)[i]?=some (a+i)
 |0,_,h=>absurd h (ek _)
 |n+1,0,_=>by show some a=_;rw[show a+((0:Nat):Int)=a by exact ai (lin [] [a] (.f (.A V0 (.c K0)) V0) [] rfl) (lin [] [a] (.f V0 (.A V0 (.c K0))) [] rfl)]
 |n+1,i+1,h=>by
  show (ivs (a+1) n)[i]?=_;rw[G6 (d8 h)]
  congr 1
  exact ai (lin [i] [a] (.f (.A (.A V0 K1) (.c V0)) (.A V0 (.c (.A V0 K1)))) [] rfl) (lin [i] [a] (.f (.A V0 (.c (.A V0 K1))) (.A (.A V0 K1) (.c V0))) [] rfl)
theorem JQ{G:Gr}{w:Nat}(g:Grid G w):Grid (trG G w) G.length:=by
 have h1:=g.w1;have z:=g.w6;refine⟨?_,?_,g.h1,g.h6,λr y=>?_⟩
 .unfold trG;rw[an,Az];exact h1
 .unfold trG;rw[an,Az];exact z
 .refine X1pr r (aW.mp y) λx Z=>?_
  unfold colG;rw[an]
theorem Dg{G:Gr}{w:Nat}(g:Grid G w){k:Sp}:k∈Ae (trG G w)↔sw k∈Ae G:=by
 constructor
 .intro h
  refine B5 ((JQ g).in h) λY z U d=>?_;have u:(trG G w).length=w:=by unfold trG;rw[an,Az]
  rw[u]at d;refine Ao (cellsOf_mem.mp h) λZ O=>?_;refine X1ppp O λr y Z B=>?_;unfold trG at y;rw[aT,G6 (by exact lin [w,k.snd.toNat] [k.snd] (.c V1 V0) [.g V0 (.c V0),.h (.c V1) V0] rfl d (ao (lin [] [k.snd] (.f K0 V0) [.f K0 V0] rfl U)))]at y
  obtain rfl:=ae y;unfold colG at B;rw[aT]at B;refine cellsOf_mem.mpr ⟨Y,?_⟩
  cases e:G[k.1.toNat]? with
  |none=>rw[e]at B;exact nS B
  |some r =>
   rw[e]at B;have B:r.getD (0+(k.2.toNat:Int)).toNat false=true:=ae B;rw[show (0+(k.2.toNat:Int)).toNat=k.2.toNat by omega]at B
   refine⟨r,e,U,?_⟩;rw[aB]at B;show r[k.2.toNat]?=some true
   cases e2:r[k.2.toNat]? with|none=>rw[e2]at B;exact nF B|some b=>rw[e2]at B;rw[show b=true from B]
 .intro h
  refine B5 (g.in h) λY z U d=>?_;refine Ao (cellsOf_mem.mp h) λZ T=>?_;refine X1ppp T λr y Z B=>?_;have Y:0<=k.2:=Y;have z:k.2<w:=z;have y:G[k.1.toNat]?=some r:=y;have B:r[k.2.toNat]?=some true:=B;refine cellsOf_mem.mpr ⟨Y,colG G (0+(k.2.toNat:Int)),?_,U,?_⟩
  .unfold trG;rw[aT,G6 (by exact lin [w,k.snd.toNat] [k.snd] (.c V1 V0) [.g V0 (.c V0),.h (.c V1) V0] rfl z (ao (lin [] [k.snd] (.f K0 V0) [.f K0 V0] rfl Y)))];rfl
  .unfold colG
   rw[aT,y];show some (r.getD (0+(k.2.toNat:Int)).toNat false)=some true;rw[show (0+(k.2.toNat:Int)).toNat=k.2.toNat by omega,aB,B];rfl
theorem IP(k:Sp):sw (sw k)=k:=rfl
theorem tr_flo{G:Gr}{w:Nat}(g:Grid G w)(d:Ae G≠[])(j:Ma (Ae G))(o:∀k∈AL (Ae G) w G.length,Reach (AL (Ae G) w G.length) k (-1,-1)):Flo (trG G w) G.length:=by
 have u:(trG G w).length=w:=by unfold trG;rw[an,Az]
 refine Flo.of (JQ g) ?_ (λa ha b z=>?_) λk B=>?_
 .intro e
  cases e2:Ae G with
  |nil=>exact d e2
  |cons a Y =>
   have:sw a∈Ae (trG G w):=(Dg g).mpr (by rw[IP,e2];exact .head _)
   rw[e]at this;exact nM this
 .have:=Reach.into (Q:=Ae (trG G w)) sw (λc d=>(Dg g).mpr (by rw[IP];exact d)) GG (j _ ((Dg g).mp ha) _ ((Dg g).mp z))
  rwa [IP,IP]at this
 .rw[u]at B ⊢
  have mem:∀c,c∈AL (Ae (trG G w)) G.length w↔sw c∈AL (Ae G) w G.length:=λc=>by
   rw[around_mem,around_mem,Dg g];exact⟨λh=>⟨⟨h.1.2,h.1.1⟩,h.2⟩,λh=>⟨⟨h.1.2,h.1.1⟩,h.2⟩⟩
  have:=Reach.into (Q:=AL (Ae (trG G w)) G.length w) sw (λc d=>(mem _).mpr (by rw[IP];exact d)) GG (o _ ((mem k).mp B))
  rwa [IP]at this
noncomputable def grow(P fs:List Sp):List Sp:=P.foldl (λfs k=>if (!(fs.contains k) && fs.any λc=>(A4 c).contains k)=true then fs++[k] else fs) fs
noncomputable def growN(P:List Sp):Nat->List Sp->List Sp
 |0,fs=>fs
 |n+1,fs=>growN P n (grow P fs)
set_option tactic.hygienic true in
theorem Lg{P:List Sp}{a:Sp}:∀{Q fs:List Sp},(∀k∈Q,k∈P)->(∀k∈fs,Reach P a k)->∀k∈Q.foldl (λfs k=>if (!(fs.contains k) && fs.any λc=>(A4 c).contains k)=true then fs++[k] else fs) fs,Reach P a k
 |[],fs,_,h,k,hk=>h k hk
 |q::Q,fs,hQ,h,k,hk=>by
  rw[cQ]at hk;refine Lg (Q:=Q) (λz hz=>hQ z (.tail _ hz)) (λz hz=>?_) k hk
  split at hz
  .rename_i c
   rcases aZ.mp hz with O|O
   .exact h z O
   .rw[aR.mp O]
    refine X1pp (dQ.mp (aG.mp c).2) λB d Y=>?_;exact .step (h B d) (fG.mp Y) (hQ q (.head _))
  .exact h z hz
theorem growN_ok{P:List Sp}{a:Sp}:∀{n:Nat}{fs:List Sp},(∀k∈fs,Reach P a k)->∀k∈growN P n fs,Reach P a k
 |0,fs,h=>h
 |n+1,fs,h=>growN_ok (n:=n) (Lg (λZ h=>h) h)
noncomputable def hangB(P:List Sp)(a:Sp):Bool:=P.all λk=>(growN P 10 [a]).contains k
theorem H5{P:List Sp}{a:Sp}(h:hangB P a=true):Hangs P a:=λk B =>
 growN_ok (n:=10) (fs:=[a]) (λk B=>by rw[aR.mp B];exact .refl) k (fG.mp (bU.mp h k B))
noncomputable def floB(G:Gr)(w:Nat):Bool:=(decide (1<=G.length/\G.length<=6/\1<=w/\w<=6) && G.all λr=>r.length == w) && ((match Ae G with
 |[]=>false
 |a::_=>hangB (Ae G) a) && hangB (AL (Ae G) w G.length) (-1,-1))
theorem Flo.ofB{G:Gr}{w:Nat}(h:floB G w=true):Flo G w:=by
 unfold floB at h;rw[be,be,be,decide_eq_true_eq]at h;obtain⟨⟨⟨B,z,U,u⟩,T⟩,O,Y⟩:=h;refine⟨⟨B,z,U,u,λr y=>eq_of_beq (bU.mp T r y)⟩,?_,H5 Y⟩
 cases e:Ae G with|nil=>rw[e]at O;exact nF O|cons a d=>rw[e]at O;exact⟨a,d,rfl,H5 O⟩
noncomputable def gOf(l:List String):Gr:=l.map λs=>s.toList.map λc=>c == '#'
end
section
theorem DC{l:List String}{G:Gr}(h:l.map b6=G.map Cb):(l.map λs=>AV.str (b6 s))=AA G:=by
 have:=congrArg (List.map AV.str) h
 rw[aY,aY]at this;exact this
theorem four{x:Int}(h:0<=x/\x<4):x.toNat=0\/x.toNat=1\/x.toNat=2\/x.toNat=3:=by
 obtain⟨n,rfl⟩:=cF h.1
 match n,h.2 with
 |0,_=>exact .inl rfl
 |1,_=>exact .inr (.inl rfl)
 |2,_=>exact .inr (.inr (.inl rfl))
 |3,_=>exact .inr (.inr (.inr rfl))
 |n+4,h=>exact absurd (Int.ofNat_lt.mp h) (cT.mpr (Nat.le_add_left 4 n))
noncomputable def corC(G:Gr)(w:Nat):List Ag:=(box (ivs 0 (w+1)) (ivs 0 (G.length+1))).filter λk=>decide (k∈BU (Ae G))
theorem ivs_up{a:Int}:∀{n:Nat},(ivs a n).Pairwise (·<·)
 |0=>.nil
 |n+1=>d9.mpr ⟨λx u=>by rw[ivs_mem]at u;exact lin [] [a,x] (.g V0 V1) [.f (.A V0 K1) V1] rfl u.1,ivs_up⟩
theorem box_up{xs:List Int}(u:xs.Pairwise (·<·)):∀{O:List Int},O.Pairwise (·<·)->(box xs O).Pairwise lt2
 |[],_=>.nil
 |y::O,hy=>by
  rw[d9]at hy;show ((xs.map λx=>(x,y))++box xs O).Pairwise lt2;refine List.pairwise_append.mpr ⟨cz.mpr (u.imp λh=>.inr ⟨rfl,h⟩),box_up u hy.2,λa ha b z=>?_⟩;refine X1pr a (aW.mp ha) λx Z=>?_;exact .inl (hy.1 _ (box_mem.mp z).2)
theorem Grid.cor{G:Gr}{w:Nat}(g:Grid G w):Cor (Ae G) (corC G w):=by
 have h6:=g.h6;have w6:=g.w6;refine⟨(box_up ivs_up ivs_up).filter _,λk=>?_,?_⟩
 .unfold corC
  rw[bE,decide_eq_true_eq,cornF_mem];refine⟨λh=>h.2,λh=>⟨?_,h⟩⟩;refine X1pp h λc d B=>?_;refine B5 (g.in d) λO U T y=>?_;rw[box_mem,ivs_mem,ivs_mem];unfold Bs at B;simp only[ax,bh,or_false]at B
  rcases B with rfl|rfl|rfl|rfl<;>dsimp only<;>omega
 .refine dv (b5 _ _) ?_
  rw[Hq,Az,Az];exact dv (dT (show G.length+1<=7 by exact lin [bX G] [] (.b (.A V0 K1) K7) [.b V0 K6] rfl h6) (show w+1<=7 by exact lin [w] [] (.b (.A V0 K1) K7) [.b V0 K6] rfl w6)) (by decide)
end
section
noncomputable def sg(k:Sp):Int:=match FK k with
 |true=>1
 |false=>-1
theorem GL{a b:Sp}(h:b∈A4 a):sg b=- sg a:=by
 unfold sg;rw[CR h]
 cases FK a<;>rfl
theorem sg_cases(k:Sp):sg k=1\/sg k=-1:=by
 unfold sg
 cases FK k
 .exact .inr rfl
 .exact .inl rfl
def Mt(P:List Sp)(m:Sp->Sp):Prop:=∀x∈P,m x∈nbP P x/\m (m x)=x
noncomputable def stp(P:List Sp)(m:Sp->Sp)(l r:Sp):Int:=if l∈P/\m l=r then -3 * sg l else sg l
theorem Dx{P:List Sp}{m:Sp->Sp}(M:Mt P m){l r:Sp}(n:r∈A4 l):stp P m r l=- stp P m l r:=by
 have e:=GL n;unfold stp
 by_cases q:l∈P/\m l=r
 .have:r∈P/\m r=l:=⟨q.2▸(nbP_mem.mp (M l q.1).1).2.2,q.2▸(M l q.1).2⟩
  rw[if_pos q,if_pos this,e];exact ai (lin [] [sg l] (.f (.M (-3) (.N V0)) (.N (.M (-3) V0))) [] rfl) (lin [] [sg l] (.f (.N (.M (-3) V0)) (.M (-3) (.N V0))) [] rfl)
 .have:¬(r∈P/\m r=l):=λz=>q ⟨z.2▸(nbP_mem.mp (M r z.1).1).2.2,z.2▸(M r z.1).2⟩
  rw[if_neg q,if_neg this,e]
structure HT(P:List Sp)(m:Sp->Sp)(h:Sp->Int):Prop where
 r:∀x y,(x,y - 1)∈P\/(x,y)∈P->h (x+1,y) - h (x,y)=stp P m (x,y - 1) (x,y)
 d:∀x y,(x,y)∈P\/(x - 1,y)∈P->h (x,y+1) - h (x,y)=stp P m (x,y) (x - 1,y)
inductive Hd(x y:Int):Sp->Sp->Sp->Sp->Prop
 |r:Hd x y (1,0) (x+1,y) (x,y - 1) (x,y)
 |d:Hd x y (0,1) (x,y+1) (x,y) (x - 1,y)
 |l:Hd x y (-1,0) (x - 1,y) (x - 1,y) (x - 1,y - 1)
 |u:Hd x y (0,-1) (x,y - 1) (x - 1,y - 1) (x,y - 1)
noncomputable def ways:List Sp:=[(1,0),(0,1),(-1,0),(0,-1)]
theorem HT.way{P:List Sp}{m:Sp->Sp}{h:Sp->Int}(H:HT P m h)(M:Mt P m){x y:Int}{w o l r:Sp}(z:Hd x y w o l r)(q:l∈P\/r∈P):h o - h (x,y)=stp P m l r:=by
 induction z using Hd.casesOn with
 |r=>exact H.r x y q
 |d=>exact H.d x y q
 |l =>
  have:=H.r (x - 1) y q.symm
  rw[bA]at this;rw[Dx M (BC EA),<- this];exact ai (lin [] [h (x - 1,y),h (x,y)] (.f (.S V0 V1) (.N (.S V1 V0))) [] rfl) (lin [] [h (x,y),h (x - 1,y)] (.f (.N (.S V0 V1)) (.S V1 V0)) [] rfl)
 |u =>
  have:=H.d x (y - 1) q.symm
  rw[bA]at this;rw[Dx M EB,<- this];exact ai (lin [] [h (x,y - 1),h (x,y)] (.f (.S V0 V1) (.N (.S V1 V0))) [] rfl) (lin [] [h (x,y),h (x,y - 1)] (.f (.N (.S V0 V1)) (.S V1 V0)) [] rfl)
def Fo(x y:Int)(k:Sp):Prop:=(k.1=x - 1\/k.1=x)/\(k.2=y - 1\/k.2=y)
noncomputable def mir(x y:Int):Bool->Sp->Sp
 |false,k=>(2 * x - 1 - k.1,k.2)
 |true,k=>(k.1,2 * y - 1 - k.2)
theorem F1{x y:Int}{v:Bool}{k:Sp}(h:Fo x y k):Fo x y (mir x y v k):=by
 refine Ao h λu d=>?_
 cases v with|false=>exact⟨by show 2 * x - 1 - k.1=_\/2 * x - 1 - k.1=_;exact bT λB=>u.elim (λO=>d.elim (λT=>(aH (λz=>B (.inr z))).elim (λY=>lin [] [k.fst,x] .no [.h V0 (.S V1 K1),.g (.S (.S (.M 2 V1) K1) V0) V1] rfl O Y) (λY=>lin [] [k.fst,x] .no [.H (-1) V0 (.S V1 K1),.g V1 (.S (.S (.M 2 V1) K1) V0)] rfl O Y)) (λT=>(aH (λz=>B (.inr z))).elim (λY=>lin [] [k.fst,x] .no [.h V0 (.S V1 K1),.g (.S (.S (.M 2 V1) K1) V0) V1] rfl O Y) (λY=>lin [] [k.fst,x] .no [.H (-1) V0 (.S V1 K1),.g V1 (.S (.S (.M 2 V1) K1) V0)] rfl O Y))) (λO=>d.elim (λT=>(aH (λz=>B (.inl z))).elim (λU=>lin [] [k.fst,x] .no [.h V0 V1,.g (.S (.S (.M 2 V1) K1) V0) (.S V1 K1)] rfl O U) (λU=>lin [] [k.fst,x] .no [.H (-1) V0 V1,.g (.S V1 K1) (.S (.S (.M 2 V1) K1) V0)] rfl O U)) (λT=>(aH (λz=>B (.inl z))).elim (λU=>lin [] [k.fst,x] .no [.h V0 V1,.g (.S (.S (.M 2 V1) K1) V0) (.S V1 K1)] rfl O U) (λU=>lin [] [k.fst,x] .no [.H (-1) V0 V1,.g (.S V1 K1) (.S (.S (.M 2 V1) K1) V0)] rfl O U))),d⟩|true=>exact⟨u,by show 2 * y - 1 - k.2=_\/2 * y - 1 - k.2=_;exact bT λB=>u.elim (λO=>d.elim (λT=>(aH (λz=>B (.inr z))).elim (λY=>lin [] [k.snd,y] .no [.h V0 (.S V1 K1),.g (.S (.S (.M 2 V1) K1) V0) V1] rfl T Y) (λY=>lin [] [k.snd,y] .no [.H (-1) V0 (.S V1 K1),.g V1 (.S (.S (.M 2 V1) K1) V0)] rfl T Y)) (λT=>(aH (λz=>B (.inl z))).elim (λU=>lin [] [k.snd,y] .no [.h V0 V1,.g (.S (.S (.M 2 V1) K1) V0) (.S V1 K1)] rfl T U) (λU=>lin [] [k.snd,y] .no [.H (-1) V0 V1,.g (.S V1 K1) (.S (.S (.M 2 V1) K1) V0)] rfl T U))) (λO=>d.elim (λT=>(aH (λz=>B (.inr z))).elim (λY=>lin [] [k.snd,y] .no [.h V0 (.S V1 K1),.g (.S (.S (.M 2 V1) K1) V0) V1] rfl T Y) (λY=>lin [] [k.snd,y] .no [.H (-1) V0 (.S V1 K1),.g V1 (.S (.S (.M 2 V1) K1) V0)] rfl T Y)) (λT=>(aH (λz=>B (.inl z))).elim (λU=>lin [] [k.snd,y] .no [.h V0 V1,.g (.S (.S (.M 2 V1) K1) V0) (.S V1 K1)] rfl T U) (λU=>lin [] [k.snd,y] .no [.H (-1) V0 V1,.g (.S V1 K1) (.S (.S (.M 2 V1) K1) V0)] rfl T U)))⟩
theorem KA{x y:Int}{v:Bool}{k:Sp}:mir x y v (mir x y v k)=k:=by
 cases v with|false=>exact bY (by show 2 * x - 1 - (2 * x - 1 - k.1)=k.1;exact ai (lin [] [x,k.fst] (.f (.S (.S (.M 2 V0) K1) (.S (.S (.M 2 V0) K1) V1)) V1) [] rfl) (lin [] [k.fst,x] (.f V0 (.S (.S (.M 2 V1) K1) (.S (.S (.M 2 V1) K1) V0))) [] rfl)) rfl|true=>exact bY rfl (by show 2 * y - 1 - (2 * y - 1 - k.2)=k.2;exact ai (lin [] [y,k.snd] (.f (.S (.S (.M 2 V0) K1) (.S (.S (.M 2 V0) K1) V1)) V1) [] rfl) (lin [] [k.snd,y] (.f V0 (.S (.S (.M 2 V1) K1) (.S (.S (.M 2 V1) K1) V0))) [] rfl))
theorem mir_near{x y:Int}{v:Bool}{k:Sp}(h:Fo x y k):mir x y v k∈A4 k:=by
 obtain⟨a,b⟩:=k;refine Ao h λY z=>?_;dsimp only at Y z
 cases v with
 |false =>
  show (2 * x - 1 - a,b)∈_
  rcases Y with e|e
  .rw[show 2 * x - 1 - a=a+1 by exact ai (lin [] [a,x] (.f (.S (.S (.M 2 V1) K1) V0) (.A V0 K1)) [.H (-2) V0 (.S V1 K1)] rfl e) (lin [] [a,x] (.f (.A V0 K1) (.S (.S (.M 2 V1) K1) V0)) [.H 2 V0 (.S V1 K1)] rfl e)];exact AX .r
  .rw[show 2 * x - 1 - a=a - 1 by exact ai (lin [] [a,x] (.f (.S (.S (.M 2 V1) K1) V0) (.S V0 K1)) [.H (-2) V0 V1] rfl e) (lin [] [a,x] (.f (.S V0 K1) (.S (.S (.M 2 V1) K1) V0)) [.H 2 V0 V1] rfl e)];exact AX .l
 |true =>
  show (a,2 * y - 1 - b)∈_
  rcases z with e|e
  .rw[show 2 * y - 1 - b=b+1 by exact ai (lin [] [b,y] (.f (.S (.S (.M 2 V1) K1) V0) (.A V0 K1)) [.H (-2) V0 (.S V1 K1)] rfl e) (lin [] [b,y] (.f (.A V0 K1) (.S (.S (.M 2 V1) K1) V0)) [.H 2 V0 (.S V1 K1)] rfl e)];exact AX .d
  .rw[show 2 * y - 1 - b=b - 1 by exact ai (lin [] [b,y] (.f (.S (.S (.M 2 V1) K1) V0) (.S V0 K1)) [.H (-2) V0 V1] rfl e) (lin [] [b,y] (.f (.S V0 K1) (.S (.S (.M 2 V1) K1) V0)) [.H 2 V0 V1] rfl e)];exact AX .u
structure Tn(P:List Sp)(x y:Int)(v:Bool)(m m':Sp->Sp):Prop where
 inP:∀k,Fo x y k->k∈P
 p:∀k,Fo x y k->m k=mir x y v k
 p':∀k,Fo x y k->m' k=mir x y (!v) k
 o:∀k,¬Fo x y k->m' k=m k
theorem Tn.mt{P:List Sp}{x y:Int}{v:Bool}{m m':Sp->Sp}(T:Tn P x y v m m')(M:Mt P m):Mt P m':=λk B=>by
 by_cases f:Fo x y k
 .rw[T.p' k f]
  exact⟨nbP_mem.mpr ⟨B,mir_near f,T.inP _ (F1 f)⟩,by rw[T.p' _ (F1 f),KA]⟩
 .have nf:¬Fo x y (m k):=λz=>f (by rw[<- (M k B).2,T.p _ z];exact F1 z)
  rw[T.o k f,T.o _ nf];exact M k B
theorem Tn.same{P:List Sp}{x y:Int}{v:Bool}{m m':Sp->Sp}(T:Tn P x y v m m'){l r:Sp}(n:¬(Fo x y l/\Fo x y r)):stp P m' l r=stp P m l r:=by
 unfold stp
 by_cases f:Fo x y l
 .have ne:∀{v},mir x y v l≠r:=λ{v} e=>n ⟨f,e▸F1 f⟩
  rw[T.p l f,T.p' l f,if_neg λz=>ne z.2,if_neg λz=>ne z.2]
 .rw[T.o l f]
noncomputable def hq(v:Bool):Int:=match v with
 |true=>-3
 |false=>1
theorem stp_r{P:List Sp}{x y u:Int}{v:Bool}{m:Sp->Sp}(B:∀k,Fo x y k->k∈P)(p:∀k,Fo x y k->m k=mir x y v k)(T:u=x - 1\/u=x):stp P m (u,y - 1) (u,y)=hq v * sg (u,y - 1):=by
 have f:Fo x y (u,y - 1):=⟨T,.inl rfl⟩;unfold stp;rw[p _ f]
 cases v with|true=>rw[if_pos ⟨B _ f,bY rfl (by show 2 * y - 1 - (y - 1)=y;exact ai (lin [] [y] (.f (.S (.S (.M 2 V0) K1) (.S V0 K1)) V0) [] rfl) (lin [] [y] (.f V0 (.S (.S (.M 2 V0) K1) (.S V0 K1))) [] rfl))⟩];rfl|false=>rw[if_neg λz=>by have:y - 1=y:=congrArg fY z.2;exact lin [] [y] .no [.H (-1) (.S V0 K1) V0] rfl this];show _=1 * _;exact ai (lin [] [sg (u,y - 1)] (.f V0 (.M 1 V0)) [] rfl) (lin [] [sg (u,y - 1)] (.f (.M 1 V0) V0) [] rfl)
theorem stp_d{P:List Sp}{x y u:Int}{v:Bool}{m:Sp->Sp}(B:∀k,Fo x y k->k∈P)(p:∀k,Fo x y k->m k=mir x y v k)(T:u=y - 1\/u=y):stp P m (x,u) (x - 1,u)=hq (!v) * sg (x,u):=by
 have f:Fo x y (x,u):=⟨.inr rfl,T⟩;unfold stp;rw[p _ f]
 cases v with|false=>rw[if_pos ⟨B _ f,bY (by show 2 * x - 1 - x=x - 1;exact ai (lin [] [x] (.f (.S (.S (.M 2 V0) K1) V0) (.S V0 K1)) [] rfl) (lin [] [x] (.f (.S V0 K1) (.S (.S (.M 2 V0) K1) V0)) [] rfl)) rfl⟩];rfl|true=>rw[if_neg λz=>by have:x=x - 1:=congrArg dU z.2;exact lin [] [x] .no [.h V0 (.S V0 K1)] rfl this];show _=1 * _;exact ai (lin [] [sg (x,u)] (.f V0 (.M 1 V0)) [] rfl) (lin [] [sg (x,u)] (.f (.M 1 V0) V0) [] rfl)
noncomputable def hup(x y:Int)(v:Bool)(h:Sp->Int)(k:Sp):Int:=if k=(x,y) then h k+(hq v * sg (x,y - 1) - hq (!v) * sg (x,y - 1)) else h k
theorem Tn.ht{P:List Sp}{x y:Int}{v:Bool}{m m':Sp->Sp}{h:Sp->Int}(T:Tn P x y v m m')(H:HT P m h):HT P m' (hup x y v h):=by
 have at_:hup x y v h (x,y)=h (x,y)+(hq v * sg (x,y - 1) - hq (!v) * sg (x,y - 1)):=if_pos rfl;have Y:∀{k},k≠(x,y)->hup x y v h k=h k:=λn=>if_neg n;have s1:sg (x - 1,y - 1)=- sg (x,y - 1):=GL EB;have s2:sg (x,y)=- sg (x,y - 1):=GL (BC EA);have nx:∀{a b:Int},a≠x->((a,b):Sp)≠(x,y):=λn e=>n (congrArg dU e);have ny:∀{a b:Int},b≠y->((a,b):Sp)≠(x,y):=λn e=>n (congrArg fY e);have O:∀z:Int,z - 1≠z:=λz=>by exact λU=>lin [] [z] .no [.H (-1) (.S V0 K1) V0] rfl U
 have u:∀z:Int,z+1≠z:=λz=>by exact λU=>lin [] [z] .no [.h (.A V0 K1) V0] rfl U
 refine⟨λa b q=>?_,λa b q=>?_⟩
 .have B:=H.r a b q
  by_cases e:b=y/\(a=x - 1\/a=x)
  .obtain⟨rfl,e⟩:=e
   rw[stp_r T.inP T.p e]at B;rw[stp_r T.inP T.p' e]
   rcases e with rfl|rfl
   .rw[bA,s1,Int.mul_neg]at B
    rw[bA,at_,Y (nx (O _)),s1,Int.mul_neg];clear T H q nx ny O u Y at_ s1 s2;exact ai (lin [] [h (x,b),h (x - 1,b),hq v * sg (x,b - 1),(hq !v) * sg (x,b - 1)] (.f (.S (.A V0 (.S V2 V3)) V1) (.N V3)) [.h (.S V0 V1) (.N V2)] rfl B) (lin [] [h (x,b),h (x - 1,b),hq v * sg (x,b - 1),(hq !v) * sg (x,b - 1)] (.f (.N V3) (.S (.A V0 (.S V2 V3)) V1)) [.H (-1) (.S V0 V1) (.N V2)] rfl B)
   .rw[at_,Y (nx (u _))]
    clear T H q nx ny O u Y at_ s1 s2;exact ai (lin [] [h (a+1,b),h (a,b),hq v * sg (a,b - 1),(hq !v) * sg (a,b - 1)] (.f (.S V0 (.A V1 (.S V2 V3))) V3) [.h (.S V0 V1) V2] rfl B) (lin [] [h (a+1,b),h (a,b),hq v * sg (a,b - 1),(hq !v) * sg (a,b - 1)] (.f V3 (.S V0 (.A V1 (.S V2 V3)))) [.H (-1) (.S V0 V1) V2] rfl B)
  .have n1:¬(Fo x y (a,b - 1)/\Fo x y (a,b)):=λ⟨z,z'⟩=>e ⟨by have h1:=z.2;have h2:=z'.2;dsimp only at h1 h2;clear T H q nx ny O u Y at_ s1 s2 z z' e B;exact ai (h1.elim (λU=>lin [] [b,y] (.f V0 V1) [.h (.S V0 K1) (.S V1 K1)] rfl U) (λU=>h2.elim (λz1=>lin [] [b,y] (.f V0 V1) [.h V0 (.S V1 K1)] rfl z1) (λz1=>lin [] [b,y] (.f V0 V1) [.h V0 V1] rfl z1))) (h1.elim (λU=>lin [] [b,y] (.f V1 V0) [.H (-1) (.S V0 K1) (.S V1 K1)] rfl U) (λU=>lin [] [b,y] (.f V1 V0) [.H (-1) (.S V0 K1) V1] rfl U)),z'.1⟩
   rw[T.same n1,Y λz=>e ⟨congrArg fY z,.inl (by have h1:a+1=x:=congrArg dU z;clear T H q nx ny O u Y at_ s1 s2 z n1 e B;exact ai (lin [] [a,x] (.f V0 (.S V1 K1)) [.h (.A V0 K1) V1] rfl h1) (lin [] [a,x] (.f (.S V1 K1) V0) [.H (-1) (.A V0 K1) V1] rfl h1))⟩,Y λz=>e ⟨congrArg fY z,.inr (congrArg dU z)⟩]
   exact B
 .have B:=H.d a b q
  by_cases e:a=x/\(b=y - 1\/b=y)
  .obtain⟨rfl,e⟩:=e
   rw[stp_d T.inP T.p e]at B;rw[stp_d T.inP T.p' e,Bool.not_not]
   rcases e with rfl|rfl
   .rw[bA]at B
    rw[bA,at_,Y (ny (O _))];clear T H q nx ny O u Y at_ s1 s2;exact ai (lin [] [h (a,y),h (a,y - 1),(hq !v) * sg (a,y - 1),hq v * sg (a,y - 1)] (.f (.S (.A V0 (.S V3 V2)) V1) V3) [.h (.S V0 V1) V2] rfl B) (lin [] [h (a,y),h (a,y - 1),(hq !v) * sg (a,y - 1),hq v * sg (a,y - 1)] (.f V3 (.S (.A V0 (.S V3 V2)) V1)) [.H (-1) (.S V0 V1) V2] rfl B)
   .rw[s2,Int.mul_neg]at B
    rw[at_,Y (ny (u _)),s2,Int.mul_neg];clear T H q nx ny O u Y at_ s1 s2;exact ai (lin [] [h (a,b+1),h (a,b),(hq !v) * sg (a,b - 1),hq v * sg (a,b - 1)] (.f (.S V0 (.A V1 (.S V3 V2))) (.N V3)) [.h (.S V0 V1) (.N V2)] rfl B) (lin [] [h (a,b+1),h (a,b),(hq !v) * sg (a,b - 1),hq v * sg (a,b - 1)] (.f (.N V3) (.S V0 (.A V1 (.S V3 V2)))) [.H (-1) (.S V0 V1) (.N V2)] rfl B)
  .have n1:¬(Fo x y (a,b)/\Fo x y (a - 1,b)):=λ⟨z,z'⟩=>e ⟨by have h1:=z.1;have h2:=z'.1;dsimp only at h1 h2;clear T H q nx ny O u Y at_ s1 s2 z z' e B;exact ai (h1.elim (λU=>lin [] [a,x] (.f V0 V1) [.h V0 (.S V1 K1)] rfl U) (λU=>lin [] [a,x] (.f V0 V1) [.h V0 V1] rfl U)) (h1.elim (λU=>h2.elim (λz1=>lin [] [a,x] (.f V1 V0) [.H (-1) (.S V0 K1) (.S V1 K1)] rfl z1) (λz1=>lin [] [a,x] (.f V1 V0) [.H (-1) (.S V0 K1) V1] rfl z1)) (λU=>lin [] [a,x] (.f V1 V0) [.H (-1) V0 V1] rfl U)),z.2⟩
   rw[T.same n1,Y λz=>e ⟨congrArg dU z,.inl (by have h1:b+1=y:=congrArg fY z;clear T H q nx ny O u Y at_ s1 s2 z n1 e B;exact ai (lin [] [b,y] (.f V0 (.S V1 K1)) [.h (.A V0 K1) V1] rfl h1) (lin [] [b,y] (.f (.S V1 K1) V0) [.H (-1) (.A V0 K1) V1] rfl h1))⟩,Y λz=>e ⟨congrArg dU z,.inr (congrArg fY z)⟩]
   exact B
theorem near_sw{a b:Sp}(h:b∈A4 a):sw b∈A4 (sw a):=GG _ _ h
theorem Mt.sw{P u:List Sp}{m:Sp->Sp}(M:Mt P m)(d:∀k,k∈u↔sw k∈P):Mt u λk=>sw (m (sw k)):=λk B=>by
 refine Ao (M _ ((d k).mp B)) λy z=>?_;refine Bl (nbP_mem.mp y) λZ Y U=>?_;exact⟨nbP_mem.mpr ⟨B,near_sw Y,(d _).mpr U⟩,congrArg Internal.sw z⟩
theorem sg_sw(k:Sp):sg (sw k)=sg k:=by
 unfold sg FK sw;rw[Int.add_comm]
theorem HT.sw{P u:List Sp}{m:Sp->Sp}{h:Sp->Int}(H:HT P m h)(M:Mt P m)(U:∀k,k∈u↔sw k∈P):HT u (λk=>Internal.sw (m (Internal.sw k))) λk=>- h (Internal.sw k):=by
 have e:∀l r,stp u (λk=>Internal.sw (m (Internal.sw k))) l r=stp P m (Internal.sw l) (Internal.sw r):=λl r=>by
  unfold stp
  have:(l∈u/\Internal.sw (m (Internal.sw l))=r)↔(Internal.sw l∈P/\m (Internal.sw l)=Internal.sw r):=and_congr (U l) ⟨λz=>by rw[<- z];rfl,λz=>by rw[z];rfl⟩
  rw[sg_sw]
  by_cases q:Internal.sw l∈P/\m (Internal.sw l)=Internal.sw r
  .rw[if_pos q,if_pos (this.mpr q)]
  .rw[if_neg q,if_neg λz=>q (this.mp z)]
 refine⟨λx y q=>?_,λx y q=>?_⟩
 .have:=H.d y x (q.symm.imp (U _).mp (U _).mp)
  rw[e,show Internal.sw (x,y - 1)=(y - 1,x) from rfl,show Internal.sw (x,y)=(y,x) from rfl,Dx M EB,<- this]
  show - h (y,x+1) - - h (y,x)=_;exact ai (lin [] [h (y,x+1),h (y,x)] (.f (.S (.N V0) (.N V1)) (.N (.S V0 V1))) [] rfl) (lin [] [h (y,x+1),h (y,x)] (.f (.N (.S V0 V1)) (.S (.N V0) (.N V1))) [] rfl)
 .have:=H.r y x (q.symm.imp (U _).mp (U _).mp)
  rw[e,show Internal.sw (x - 1,y)=(y,x - 1) from rfl,show Internal.sw (x,y)=(y,x) from rfl,Dx M (BC EA),<- this]
  show - h (y+1,x) - - h (y,x)=_;exact ai (lin [] [h (y+1,x),h (y,x)] (.f (.S (.N V0) (.N V1)) (.N (.S V0 V1))) [] rfl) (lin [] [h (y+1,x),h (y,x)] (.f (.N (.S V0 V1)) (.S (.N V0) (.N V1))) [] rfl)
noncomputable def flM(b:Int->Int)(k:Sp):Sp:=if (k.1 - b k.2) % 2=0 then (k.1+1,k.2) else (k.1 - 1,k.2)
noncomputable def eb(k:Sp):Int:=match FK k with
 |true=>0
 |false=>-1
theorem sg_eb(k:Sp):sg k=2 * eb k+1:=by
 unfold sg eb
 cases FK k<;>rfl
theorem Hi{a b:Sp}(h:b∈A4 a):eb b=-1 - eb a:=by
 unfold eb;rw[CR h]
 cases FK a<;>rfl
theorem sg_par(x b y:Int):sg (x,y)=if (x - b) % 2=0 then sg (b,y) else - sg (b,y):=by
 unfold sg FK;dsimp only;rw[dy _ (by decide),dy _ (by decide)]
 by_cases q:(x - b) % 2=0
 .rw[if_pos q,show (x+y) % 2=(b+y) % 2 by omega]
 .rw[if_neg q]
  rcases Int.emod_two_eq (b+y)with e|e
  .rw[e,show (x+y) % 2=1 by omega];rfl
  .rw[e,show (x+y) % 2=0 by omega];rfl
noncomputable def flA(b:Int->Int):Nat->Int
 |0=>0
 |n+1=>flA b n+2 * sg (b n,n)
noncomputable def flH(b:Int->Int)(k:Sp):Int:=flA b k.2.toNat+eb k
theorem fl_mt{P:List Sp}{b:Int->Int}(d:∀k∈P,flM b k∈P):Mt P (flM b):=λk B=>by
 have Y:=d k B;obtain⟨x,y⟩:=k;unfold flM at Y ⊢;dsimp only at Y ⊢
 by_cases q:(x - b y) % 2=0
 .rw[if_pos q]at Y ⊢
  rw[if_neg (by dsimp only;omega)]
  exact⟨nbP_mem.mpr ⟨B,AX .r,Y⟩,bY (dw _ _) rfl⟩
 .rw[if_neg q]at Y ⊢
  rw[if_pos (by dsimp only;omega)]
  exact⟨nbP_mem.mpr ⟨B,AX .l,Y⟩,bY (bA _ _) rfl⟩
theorem fl_up{b:Int->Int}{y:Int}(u:0<=y):flA b (y+1).toNat=flA b y.toNat+2 * sg (b y,y):=by
 refine X1l y (cF u) λn=>?_
 rfl
theorem fl_ht{P:List Sp}{b:Int->Int}(Y:∀k∈P,0<=k.2)(T:∀k∈P,flM b k∈P):HT P (flM b) (flH b):=by
 refine⟨λx y q=>?_,λx y q=>?_⟩
 .unfold stp
  rw[if_neg]
  .have U:eb (x+1,y)=-1 - eb (x,y):=Hi (AX .r)
   have e2:eb (x,y - 1)=-1 - eb (x,y):=Hi (AX .u);have B:=sg_eb (x,y - 1);show flA b y.toNat+eb (x+1,y) - (flA b y.toNat+eb (x,y))=_;clear Y T q;exact ai (lin [] [eb (x+1,y),eb (x,y),eb (x,y - 1),sg (x,y - 1),flA b y.toNat] (.f (.S (.A V4 V0) (.A V4 V1)) V3) [.h V0 (.S Km1 V1),.H (-2) V2 (.S Km1 V1),.H (-1) V3 (.A (.M 2 V2) K1)] rfl U e2 B) (lin [] [eb (x+1,y),eb (x,y),eb (x,y - 1),sg (x,y - 1),flA b y.toNat] (.f V3 (.S (.A V4 V0) (.A V4 V1))) [.H (-1) V0 (.S Km1 V1),.H 2 V2 (.S Km1 V1),.h V3 (.A (.M 2 V2) K1)] rfl U e2 B)
  .intro hR1
   refine Ao hR1 λZ e=>?_
   have:y - 1=y:=by
    have:=congrArg fY e
    unfold flM at this
    split at this<;>exact this
   clear Y T q e;exact lin [] [y] .no [.H (-1) (.S V0 K1) V0] rfl this
 .have y0:0<=y:=q.elim (Y _) (Y _)
  have up:=fl_up (b:=b) y0;have U:eb (x,y+1)=-1 - eb (x,y):=Hi (AX .d);have B:=sg_eb (x,y);have O:=sg_par x (b y) y;unfold stp;show flA b (y+1).toNat+eb (x,y+1) - (flA b y.toNat+eb (x,y))=_
  by_cases z:(x - b y) % 2=0
  .rw[if_pos z]at O
   have m:flM b (x,y)=(x+1,y):=if_pos z;rw[if_neg λw=>by
    have:x+1=x - 1:=congrArg dU (m.symm.trans w.2)
    clear Y T q U B O up w;exact lin [] [x] .no [.h (.A V0 K1) (.S V0 K1)] rfl this]
   clear Y T q m z;exact ai (lin [] [flA b (y+1).toNat,flA b y.toNat,sg (b y,y),eb (x,y+1),eb (x,y),sg (x,y)] (.f (.S (.A V0 V3) (.A V1 V4)) V5) [.h V0 (.A V1 (.M 2 V2)),.h V3 (.S Km1 V4),.h V5 (.A (.M 2 V4) K1),.H (-2) V5 V2] rfl up U B O) (lin [] [flA b (y+1).toNat,flA b y.toNat,sg (b y,y),eb (x,y+1),eb (x,y),sg (x,y)] (.f V5 (.S (.A V0 V3) (.A V1 V4))) [.H (-1) V0 (.A V1 (.M 2 V2)),.H (-1) V3 (.S Km1 V4),.H (-1) V5 (.A (.M 2 V4) K1),.H 2 V5 V2] rfl up U B O)
  .rw[if_neg z]at O
   have m:flM b (x,y)=(x - 1,y):=if_neg z;rw[if_pos ⟨q.elim id λr=>by
    have:=T _ r
    unfold flM at this;rw[if_pos (by dsimp only;clear Y T q U B O up this m;omega)]at this
    rwa [show ((x - 1+1,y):Sp)=(x,y) by rw[bA]]at this,m⟩]
   clear Y T q m z;exact ai (lin [] [flA b (y+1).toNat,flA b y.toNat,sg (b y,y),eb (x,y+1),eb (x,y),sg (x,y)] (.f (.S (.A V0 V3) (.A V1 V4)) (.M (-3) V5)) [.h V0 (.A V1 (.M 2 V2)),.h V3 (.S Km1 V4),.h V5 (.A (.M 2 V4) K1),.H 2 V5 (.N V2)] rfl up U B O) (lin [] [flA b (y+1).toNat,flA b y.toNat,sg (b y,y),eb (x,y+1),eb (x,y),sg (x,y)] (.f (.M (-3) V5) (.S (.A V0 V3) (.A V1 V4))) [.H (-1) V0 (.A V1 (.M 2 V2)),.H (-1) V3 (.S Km1 V4),.H (-1) V5 (.A (.M 2 V4) K1),.H (-2) V5 (.N V2)] rfl up U B O)
end
section
def Eg(P:List Sp)(k c:Sp):Prop:=∃w l r,Hd k.1 k.2 w c l r/\(l∈P\/r∈P)
theorem B2{k c:Sp}(Y:k.1=c.1\/k.1=c.1+1)(z:k.2=c.2\/k.2=c.2+1):k∈Bs c:=by
 obtain⟨a,b⟩:=k;dsimp only at Y z
 rcases Y with rfl|rfl<;>rcases z with rfl|rfl
 .exact .head _
 .exact .tail _ (.tail _ (.head _))
 .exact .tail _ (.head _)
 .exact .tail _ (.tail _ (.tail _ (.head _)))
theorem Eg.in{P C:List Sp}(B:Cor P C){k c:Sp}(e:Eg P k c):c∈C:=by
 refine X3pp e λw l r y q=>?_
 have:c∈Bs l/\c∈Bs r:=by
  induction y using Hd.casesOn with|r=>exact⟨B2 (.inr rfl) (.inr (bA ..).symm),B2 (.inr rfl) (.inl rfl)⟩|d=>exact⟨B2 (.inl rfl) (.inr rfl),B2 (.inr (bA ..).symm) (.inr rfl)⟩|l=>exact⟨B2 (.inl rfl) (.inl rfl),B2 (.inl rfl) (.inr (bA ..).symm)⟩|u=>exact⟨B2 (.inr (bA ..).symm) (.inl rfl),B2 (.inl rfl) (.inl rfl)⟩
 exact(B.mem c).mpr (q.elim (λq=>⟨l,q,this.1⟩) λq=>⟨r,q,this.2⟩)
theorem Hangs.corners{P C S:List Sp}{a:Sp}(H:Hangs P a)(T:Cor P C)(ha:a∈P)(aS:a∈S)(cl:∀k∈S,∀c,Eg P k c->c∈S):∀k∈C,k∈S:=by
 have cells:∀k,Reach P a k->k∈P/\k∈S:=λk h=>by
  induction h with
  |refl=>exact⟨ha,aS⟩
  | @step b c _ O z y =>
   refine⟨z,cl b y.2 c ?_⟩
   cases Fh O with|u=>exact⟨_,_,_,.u,.inr z⟩|l=>exact⟨_,_,_,.l,.inl z⟩|r=>exact⟨_,_,_,.r,.inr y.1⟩|d=>exact⟨_,_,_,.d,.inl y.1⟩
 intro k B;refine X1pp ((T.mem k).mp B) λc Y B=>?_;have U:=(cells c (H c Y)).2;have rS:(c.1+1,c.2)∈S:=cl _ U _ ⟨_,_,_,.r,.inr Y⟩;have dS:(c.1,c.2+1)∈S:=cl _ U _ ⟨_,_,_,.d,.inl Y⟩;have bS:(c.1+1,c.2+1)∈S:=cl _ rS _ ⟨_,_,_,.d,.inr (by show (c.1+1 - 1,c.2)∈P;rw[dw];exact Y)⟩
 unfold Bs at B;simp only[ax,bh,or_false]at B
 rcases B with rfl|rfl|rfl|rfl
 .exact U
 .exact rS
 .exact dS
 .exact bS
theorem Dfs.corners{P C fs:List Sp}{a:Sp}(h:Dfs (Eg P) (·∈C) a fs [])(H:Hangs P a)(z:Cor P C)(ha:a∈P)(k:Sp):k∈fs↔k∈C :=
 ⟨h.rc k,H.corners z ha h.ha (λk B c e=>h.cl k B bh c e) k⟩
theorem ways_hd{x y:Int}{w:Sp}(h:w∈ways):∃l r,Hd x y w (x+w.1,y+w.2) l r:=by
 unfold ways at h;simp only[ax,bh,or_false]at h
 rcases h with rfl|rfl|rfl|rfl
 .exact⟨_,_,(bY rfl (bH y).symm:((x+1,y):Sp)=(x+1,y+0))▸Hd.r⟩
 .exact⟨_,_,(bY (bH x).symm rfl:((x,y+1):Sp)=(x+0,y+1))▸Hd.d⟩
 .exact⟨_,_,(bY rfl (bH y).symm:((x - 1,y):Sp)=(x+-1,y+0))▸Hd.l⟩
 .exact⟨_,_,(bY (bH x).symm rfl:((x,y - 1):Sp)=(x+0,y+-1))▸Hd.u⟩
noncomputable def HM(b:Int):List Int->Bool
 |[]=>true
 |x::r=>(match r with
  |[]=>false
  |y::r=>((x - b) % 2 == 0) && ((y == x+1) && HM b r))
theorem CG{b x y:Int}{r:List Int}(h:HM b (x::y::r)=true):(x - b) % 2=0/\y=x+1/\HM b r=true:=by
 have h:(((x - b) % 2 == 0) && ((y == x+1) && HM b r))=true:=h;refine Ao (aG.mp h) λO h=>?_;refine Ao (aG.mp h) λz Y=>?_;exact⟨eq_of_beq O,eq_of_beq z,Y⟩
theorem Kk{b:Int}:∀{xs:List Int},HM b xs=true->∀x∈xs,(if (x - b) % 2=0 then x+1 else x - 1)∈xs
 |[],_,x,h=>by exact nM h
 |[_],h,_,_=>by exact nF h
 |u::v::r,h,x,d=>by
  refine Bl (CG h) λO T Y=>?_;clear h;subst T;refine JF x d ?_ λd=>?_
  .rw[if_pos O];exact .tail _ (.head _)
  ·
   refine JF x d ?_ λd=>?_
   .rw[if_neg (by omega),dw];exact .head _
   .exact .tail _ (.tail _ (Kk Y x d))
theorem HL{b:Int}:∀{xs:List Int},HM b xs=true->∃h,xs.length=2 * h
 |[],_=>⟨0,rfl⟩
 |[_],h=>by exact nF h
 |u::v::r,h=>by
  refine X1p (HL (CG h).2.2) λn e=>?_;exact⟨n+1,by rw[aK,aK,e];exact ar (lin [n] [] (.b (.A (.A (.M 2 V0) K1) K1) (.M 2 (.A V0 K1))) [] rfl) (lin [n] [] (.b (.M 2 (.A V0 K1)) (.A (.A (.M 2 V0) K1) K1)) [] rfl)⟩
theorem par_at{b:Int}:∀{xs:List Int}{i:Nat},HM b xs=true->2 * i<xs.length->∃u,xs[2 * i]?=some u/\xs[2 * i+1]?=some (u+1)/\(u - b) % 2=0/\xs.take (2 * (i+1))=xs.take (2 * i)++[u,u+1]
 |[],i,_,h=>absurd h (ek _)
 |[_],_,h,_=>by exact nF h
 |u::v::r,0,h,_=>by
  refine Bl (CG h) λY d U=>?_;clear h;subst d;exact⟨u,rfl,rfl,Y,rfl⟩
 |u::v::r,i+1,h,hl=>by
  refine X1pppp (par_at (i:=i) (CG h).2.2 (by rw[aK,aK]at hl;exact lin [i,r.length] [] (.c (.M 2 V0) V1) [.c (.M 2 (.A V0 K1)) (.A (.A V1 K1) K1)] rfl hl)) λz Y O U y=>?_
  refine⟨z,Y,O,U,?_⟩;show u::v::r.take (2 * (i+1))=(u::v::r.take (2 * i))++_;rw[y];rfl
theorem par_ivs(b:Int):∀n:Nat,HM b (ivs b (2 * n))=true:=by
 have Y:∀(n:Nat)(x:Int),(x - b) % 2=0->HM b (ivs x (2 * n))=true:=λn=>by
  induction n with
  |zero=>exact λZ Z=>rfl
  |succ n y =>
   intro x h;have e:ivs x (2 * (n+1))=x::(x+1)::ivs (x+1+1) (2 * n):=rfl;rw[e];exact aG.mpr ⟨beq_iff_eq.mpr h,aG.mpr ⟨beq_self_eq_true _,y (x+1+1) (by omega)⟩⟩
 exact λn=>Y n b (by omega)
noncomputable def Cx(P:List Sp)(m:Sp->Sp):List (Sp×Sp):=(P.filter λc=>FI c (m c)).map λc=>(c,m c)
structure Hand(P:List Sp)(m:Sp->Sp)(H:List (Sp×Sp)):Prop where
 at_:∀q∈H,q.1∈P/\q.2=m q.1
 nd:(BE H).Nodup
 mem:∀k,k∈BE H↔k∈P
theorem CU(H K:List (Sp×Sp)):BE (H++K)=BE H++BE K:=gh
theorem Mt.ord{P:List Sp}{m:Sp->Sp}(M:Mt P m){x:Sp}(u:x∈P):FI x (m x)=true\/FI (m x) x=true :=
 ordB_tot λe=>by
  have:=CR (nbP_mem.mp (M x u).1).2.1
  rw[<- e]at this
  cases q:FK x<;>rw[q]at this<;>cases this
theorem Mt.lay{P:List Sp}{m:Sp->Sp}(M:Mt P m)(y:P.Nodup):Hand P m (Cx P m):=by
 have at_:∀q∈Cx P m,q.1∈P/\q.2=m q.1:=λq hq=>by
  refine X1pr q (aW.mp hq) λc d=>?_;exact⟨(bE.mp d).1,rfl⟩
 refine⟨at_,Gk (y.filter _) λa ha=>?_,λk=>⟨λh=>?_,λh=>?_⟩⟩
 .refine Ao (bE.mp ha) λY z=>?_
  exact⟨z,(M a Y).2⟩
 .refine X1pp (eJ.mp h) λq hq h=>?_
  refine Ao (at_ q hq) λY z=>?_;refine JF k h ?_ λh=>?_
  .exact Y
  ·
   refine JF k h ?_ λh=>?_
   .rw[z];exact(nbP_mem.mp (M _ Y).1).2.2
   .exact nM h
 .refine eJ.mpr ?_
  rcases M.ord h with o|o
  .exact⟨(k,m k),aW.mpr ⟨k,bE.mpr ⟨h,o⟩,rfl⟩,.head _⟩
  .have h':=M k h
   exact⟨(m k,m (m k)),aW.mpr ⟨m k,bE.mpr ⟨(nbP_mem.mp h'.1).2.2,by rw[h'.2];exact o⟩,rfl⟩,by rw[h'.2];exact .tail _ (.head _)⟩
noncomputable def insG{α:Type}(l:List α)(k:Nat)(x:α):List α:=l.take k++x::l.drop k
structure Among(d H:List (Sp×Sp)):Prop where
 at_:∀q∈H,q∈d\/(q.2,q.1)∈d
 perm:(BE H).Perm (BE d)
theorem Among.put{d H:List (Sp×Sp)}(h:Among d H)(i:Nat){q z:Sp×Sp}(e:z=q\/z=(q.2,q.1)):Among (d++[q]) (insG H i z):=by
 have p2:[z.1,z.2].Perm [q.1,q.2]:=by
  rcases e with rfl|rfl
  .exact .refl _
  .exact .swap ..
 refine⟨λr y=>?_,?_⟩
 .rcases aZ.mp y with w|w
  .exact(h.at_ r (List.mem_of_mem_take w)).imp (ba _) (ba _)
  .refine JF r w ?_ λw=>?_
   ·
    rcases e with rfl|rfl
    .exact .inl (bx _ (.head _))
    .exact .inr (bx _ (.head _))
   .exact(h.at_ r (List.mem_of_mem_drop w)).imp (ba _) (ba _)
 .unfold insG
  rw[CU,CU]
  have:BE (z::H.drop i)=[z.1,z.2]++BE (H.drop i):=rfl
  rw[this];have u:(BE (H.take i)++([z.1,z.2]++BE (H.drop i))).Perm (BE (H.take i)++(BE (H.drop i)++[z.1,z.2])):=List.Perm.append_left _ List.perm_append_comm;refine u.trans ?_;rw[<- aM,<- CU,List.take_append_drop];exact List.Perm.append h.perm p2
theorem Hand.among{P:List Sp}{m:Sp->Sp}{d H:List (Sp×Sp)}(L:Hand P m d)(M:Mt P m)(h:Among d H):Hand P m H:=by
 refine⟨λq hq=>?_,h.perm.nodup_iff.mpr L.nd,λk=>h.perm.mem_iff.trans (L.mem k)⟩
 rcases h.at_ q hq with w|w
 .exact L.at_ q w
 .refine Ao (L.at_ _ w) λY z=>?_
  have z:q.1=m q.2:=z;rw[z];exact⟨(nbP_mem.mp (M _ Y).1).2.2,(M _ Y).2.symm⟩
end
section
noncomputable def EU:Ap:=⟨[2224424541109078390632087655,2011653587633505230741569653],2,[.ite (.or [(.not (.call (.g 1) [(.v 1),(.g 4)])),(.cmp .NotEq (.call (.g 0) [(.v 1)]) (.int 2))]) [.ret (.bool false)] [],.ret (.and [(.meth (.v 0) 15 [(.sub (.v 1) (.int 0))]),(.meth (.v 0) 15 [(.sub (.v 1) (.int 1))]),(.cmp .In (.sub (.v 1) (.int 1)) (.call (.g 34) [(.sub (.v 1) (.int 0))]))])]⟩
noncomputable def CY:Ap:=⟨[2224424541109078390632087655,4705521001015047487082861862846577,1953625148292055806928486503,1972967859948727099564490865,448600976916592,2224424448875327235775529072],2,[.ite (.not (.call (.g 1) [(.v 1),(.g 5)])) [.raise (.call (.g 23) [(.str "a list of pieces is wanted")])] [],.assign (.v 2) (.mu 4 (.dict [] [])),.for_ (.v 3) (.v 1) [.ite (.not (.call (.g 38) [(.v 0),(.v 3)])) [.raise (.call (.g 23) [(.str "no piece of the floor")])] [],.for_ (.tup [(.v 4),(.v 5)]) (.list [(.v 3),(.slice (.v 3) .none .none (.neg (.int 1)))]) [.ite (.cmp .In (.v 4) (.v 2)) [.raise (.call (.g 23) [(.str "a cell that is covered twice")])] [],.setitem (.v 2) (.v 4) (.v 5)]],.ite (.cmp .NotEq (.call (.g 0) [(.v 2)]) (.call (.g 0) [(.meth (.v 0) 16 [])])) [.raise (.call (.g 23) [(.str "a cell that isn't covered")])] [],.ret (.v 2)]⟩
noncomputable def CZ:Ap:=⟨[43400774030903411559313583009360306713791419551580256,403752334065308102653787000012206599970895246591058502767404664596988000,91018018189733985137666135094806080181247385265940457324640,4948909800202173316588973022249056,9868193549052196435307839356599797809248,4908344980994869975741078519677024,4381002331299926544718449986240608,18197417524841213801143636359034529248444416096,90233375608933022600596502592366504807846208770953298575456],2,[.assign (.v 2) (.mu 4 (.dict [] [])),.for_ (.v 3) (.call (.g 8) [(.call (.g 0) [(.v 0)])]) [.assign (.v 4) (.comp (.v 5) 5 (.call (.g 8) [(.call (.g 0) [(.sub (.v 0) (.v 3))])]) [(.cmp .Eq (.sub (.sub (.v 0) (.v 3)) (.v 5)) (.str "#"))]),.for_ (.v 6) (.call (.g 8) [(.int 0),(.call (.g 0) [(.v 4)]),(.int 2)]) [.assign (.tup [(.v 7),(.v 8)]) (.tup [(.tup [(.sub (.v 4) (.v 6)),(.v 3)]),(.tup [(.sub (.v 4) (.bin .Add (.v 6) (.int 1))),(.v 3)])]),.ite (.v 1) [.assign (.tup [(.v 7),(.v 8)]) (.tup [(.tup [(.v 3),(.sub (.v 4) (.v 6))]),(.tup [(.v 3),(.sub (.v 4) (.bin .Add (.v 6) (.int 1)))])])] [],.setitem (.v 2) (.v 7) (.v 8),.setitem (.v 2) (.v 8) (.v 7)]],.ret (.v 2)]⟩
noncomputable def c_lturn:Ap:=⟨[91018018189733985137666135094806080181247385265940457324640,189233104125027351079044284948292633439235375036323580149648851040,4908344980994869975741078519677024,4948909800202173316588973022249056,18197417524841213801143636359034529248444416096,19981477906359192048674073130143504362914185312,80033085288931450417958380331566650385268273459796929151072,43026629254934777235276691597125805808210982694027360,38162750378649839618062290065254989900323531341693024,40781761134340005352671968699721311000275178949181536,90233375608933022600596502592366504807846208770953298575456],2,[.assign (.tup [(.v 2),(.v 3)]) (.v 1),.assign (.tup [(.v 4),(.v 5),(.v 6),(.v 7)]) (.tup [(.tup [(.bin .Sub (.v 2) (.int 1)),(.bin .Sub (.v 3) (.int 1))]),(.tup [(.v 2),(.bin .Sub (.v 3) (.int 1))]),(.tup [(.bin .Sub (.v 2) (.int 1)),(.v 3)]),(.tup [(.v 2),(.v 3)])]),.ite (.and [(.cmp .Eq (.meth (.v 0) 6 [(.v 4)]) (.v 5)),(.cmp .Eq (.meth (.v 0) 6 [(.v 6)]) (.v 7))]) [.assign (.v 8) (.list [(.tup [(.v 4),(.v 6)]),(.tup [(.v 5),(.v 7)])])] [.ite (.and [(.cmp .Eq (.meth (.v 0) 6 [(.v 4)]) (.v 6)),(.cmp .Eq (.meth (.v 0) 6 [(.v 5)]) (.v 7))]) [.assign (.v 8) (.list [(.tup [(.v 4),(.v 5)]),(.tup [(.v 6),(.v 7)])])] [.ret (.bool false)]],.for_ (.tup [(.v 9),(.v 10)]) (.v 8) [.setitem (.v 0) (.v 9) (.v 10),.setitem (.v 0) (.v 10) (.v 9)],.ret (.bool true)]⟩
noncomputable def Cp:Ap:=⟨[91018018189733985137666135094806080181247385265940457324640,189233104125022861345122375117010683388186817415792500651818221664,45645638940188833158982529341182163285935419805401184,79248450939308422951359488504115116927624233569666205745248,4381002331299926544718449986240608],3,[.assign (.v 3) (.mu 4 (.call (.g 7) [(.v 0)])),.for_ (.v 4) (.call (.g 8) [(.v 2)]) [.assign (.v 1) (.call (.g 73) [(.v 1),(.v 4)]),.expr (.call (.g 86) [(.v 3),(.tup [(.bin .Mod (.v 1) (.int 7)),(.bin .Mod (.bin .FloorDiv (.v 1) (.int 7)) (.int 7))])])],.ret (.v 3)]⟩
noncomputable def c_lfloor_by:Ap:=⟨[192524121870682778597944489011036038917448218529394060437475033184,40781761134340005352671968699721311000275178949181536,43400774030903411559313583009360306713791419551580256,403752334065308102653787000012206599970895246591058502767404664596988000,91018018189733985137666135094806080181247385265940457324640],1,[.assign (.v 1) (.call (.g 72) [(.v 0),(.int 0)]),.assign (.v 2) (.call (.g 75) [(.v 1),(.call (.g 72) [(.v 0),(.int 1)]),(.bool true)]),.ite (.cmp .Eq (.bin .Mod (.v 1) (.int 7)) (.int 6)) [.assign (.v 2) (.sub (.list [(.list [(.str "##..##"),(.str "##..##"),(.str "######")]),(.list [(.str "######"),(.str "....##"),(.str "##..##"),(.str "##..##"),(.str "######")]),(.list [(.str "##..##"),(.str "######"),(.str "##..##"),(.str "##..##")]),(.list [(.str "##..##"),(.str "##..##"),(.str "######"),(.str "##..##"),(.str "##..##")])]) (.bin .Mod (.bin .FloorDiv (.v 1) (.int 7)) (.int 4)))] [],.assign (.v 3) (.cmp .Eq (.bin .Mod (.bin .FloorDiv (.v 1) (.int 30)) (.int 2)) (.int 1)),.assign (.v 4) (.call (.g 85) [(.v 2),(.v 3)]),.ite (.v 3) [.assign (.v 2) (.call (.g 74) [(.v 2)])] [],.ret (.tup [(.v 2),(.v 4)])]⟩
noncomputable def LQ:Ap:=⟨[91018018189733985137666135094806080181247385265940457324640,79248450939308422951359488504115116927624233569666205745248,40781761134340005352671968699721311000275178949181536],1,[.assign (.v 1) (.comp (.tup [(.v 2),(.sub (.v 0) (.v 2))]) 2 (.v 0) [(.cmp .Lt (.call (.g 89) [(.v 2)]) (.call (.g 89) [(.sub (.v 0) (.v 2))]))]),.ret (.mu 4 (.sorted (.v 1) (.g 91)))]⟩
noncomputable def ID:Ap:=⟨[80033084540640292827120509455944254106483492226642776948832],1,[.ret (.call (.g 89) [(.sub (.v 0) (.int 0))])]⟩
noncomputable def Gp:Ap:=⟨[91018018189733985137666135094806080181247385265940457324640,189233104125022861345122375117010683388186817415792500651818221664,79248450939308422951359488504115116927624233569666205745248,4381002331299926544718449986240608,80033084540640292827120509455944254106483492226642776948832,38162750378649839618062290065254989900323531341693024],2,[.assign (.v 2) (.mu 4 (.list [])),.for_ (.tup [(.v 3),(.v 4)]) (.call (.g 9) [(.call (.g 90) [(.v 0)])]) [.assign (.v 5) (.sub (.list [(.v 4),(.tup [(.sub (.v 4) (.int 1)),(.sub (.v 4) (.int 0))])]) (.bin .Mod (.bin .FloorDiv (.call (.g 73) [(.v 1),(.v 3)]) (.int 7)) (.int 2))),.expr (.meth (.v 2) 2 [(.bin .Mod (.bin .FloorDiv (.call (.g 73) [(.v 1),(.v 3)]) (.int 14)) (.bin .Add (.call (.g 0) [(.v 2)]) (.int 1))),(.v 5)])],.ret (.v 2)]⟩
noncomputable def c_lstep:Ap:=⟨[91018018189733985137666135094806080181247385265940457324640,189233104125027351079044284948292633439235375036323580149648851040,21765535650688745529293003453417576092175171680,4908344980994869975741078519677024,4948909800202173316588973022249056,43774915417157925000048287816275511605040227033284704,91802652165212771854791526496275117499616717914179597500512,40407617785618723452755380057004259600605075239600224,1548065105748371235835565186513595288627984830138641075998525973848831355894661906528],3,[.assign (.tup [(.v 3),(.v 4)]) (.v 1),.assign (.tup [(.v 5),(.v 6)]) (.sub (.dict [(.tup [(.int 1),(.int 0)]),(.tup [(.int 0),(.int 1)]),(.tup [(.neg (.int 1)),(.int 0)]),(.tup [(.int 0),(.neg (.int 1))])] [(.tup [(.tup [(.v 3),(.bin .Sub (.v 4) (.int 1))]),(.tup [(.v 3),(.v 4)])]),(.tup [(.tup [(.v 3),(.v 4)]),(.tup [(.bin .Sub (.v 3) (.int 1)),(.v 4)])]),(.tup [(.tup [(.bin .Sub (.v 3) (.int 1)),(.v 4)]),(.tup [(.bin .Sub (.v 3) (.int 1)),(.bin .Sub (.v 4) (.int 1))])]),(.tup [(.tup [(.bin .Sub (.v 3) (.int 1)),(.bin .Sub (.v 4) (.int 1))]),(.tup [(.v 3),(.bin .Sub (.v 4) (.int 1))])])]) (.v 2)),.ite (.and [(.cmp .NotIn (.v 5) (.v 0)),(.cmp .NotIn (.v 6) (.v 0))]) [.ret .none] [],.assign (.v 7) (.ite (.cmp .In (.v 5) (.v 0)) (.cmp .Eq (.bin .Mod (.call (.g 11) [(.v 5)]) (.int 2)) (.int 0)) (.cmp .Eq (.bin .Mod (.call (.g 11) [(.v 6)]) (.int 2)) (.int 1))),.assign (.v 8) (.ite (.v 7) (.int 1) (.neg (.int 1))),.ret (.ite (.and [(.cmp .In (.v 5) (.v 0)),(.cmp .Eq (.sub (.v 0) (.v 5)) (.v 6))]) (.bin .Mult (.neg (.int 3)) (.v 8)) (.v 8))]⟩
noncomputable def c_lnumbers:Ap:=⟨[91018018189733985137666135094806080181247385265940457324640,91802655906655892987069244177394895520651782130346485612640,14278380407590158710755182503339933259032444938476215764378408524097521681295658400122009378494949097568,358890992684198351242246773512480881086083756502504165928775550727356512,189233104125027351079044284948292633439235375036323580149648851040,21765535650688745529293003453417576092175171680,90233375608933022600596502592366504807846208770953298575456,1548065105748371235835565186513595288627984830138641075998525973848831355894661906528],1,[.assign (.v 1) (.sub (.sorted (.call (.g 5) [(.v 0)]) (.g 89)) (.int 0)),.assign (.v 2) (.mu 4 (.dict [(.v 1)] [(.int 0)])),.assign (.v 3) (.mu 5 (.list [(.v 1)])),.while_ (.cmp .NotEq (.v 3) (.list [])) [.assign (.v 4) (.meth (.v 3) 1 []),.for_ (.v 5) (.list [(.tup [(.int 1),(.int 0)]),(.tup [(.int 0),(.int 1)]),(.tup [(.neg (.int 1)),(.int 0)]),(.tup [(.int 0),(.neg (.int 1))])]) [.assign (.v 6) (.tup [(.bin .Add (.sub (.v 4) (.int 0)) (.sub (.v 5) (.int 0))),(.bin .Add (.sub (.v 4) (.int 1)) (.sub (.v 5) (.int 1)))]),.assign (.v 7) (.call (.g 104) [(.v 0),(.v 4),(.v 5)]),.ite (.and [(.cmp .IsNot (.v 7) .none),(.cmp .NotIn (.v 6) (.v 2))]) [.setitem (.v 2) (.v 6) (.bin .Add (.sub (.v 2) (.v 4)) (.v 7)),.expr (.meth (.v 3) 0 [(.v 6)])] []]],.ret (.v 2)]⟩
noncomputable def fD(f:Ag->AV)(l:List Ag):List (Ag×AV):=l.map λp=>(p,f p)
theorem Ho(f:Ag->AV)(l:List Ag)(k:Ag):Cn (fD f l) k=if k∈l then some (f k) else aa:=by
 induction l with
 |nil=>rfl
 |cons x r y =>
  show (((x,f x)::fD f r).find? λz=>decide (z.1=k)).map (·.2)=_
  by_cases e:x=k
  .clear y;subst e
   rw[List.find?_cons_of_pos (p:=λz:Ag×AV=>decide (z.1=x)) (decide_eq_true rfl),if_pos (.head _)];rfl
  .rw[List.find?_cons_of_neg (p:=λz:Ag×AV=>decide (z.1=k)) (λz=>e (of_decide_eq_true z))]
   refine Eq.trans y ?_
   by_cases h:k∈r
   .rw[if_pos h,if_pos (.tail _ h)]
   .rw[if_neg h,if_neg λz=>(ax.mp z).elim (λw=>e w.symm) h]
theorem ED(f:Ag->AV)(l:List Ag)(k:Ag):(Cn (fD f l) k).isSome=decide (k∈l):=by
 rw[Ho]
 by_cases h:k∈l
 .rw[if_pos h,decide_eq_true h];rfl
 .rw[if_neg h,decide_eq_false h];rfl
theorem KZ{f:Ag->AV}{l:List Ag}{k:Ag}(h:k∈l):(Cn (fD f l) k).isSome=true:=(ED f l k).trans (decide_eq_true h)
theorem Ew{f:Ag->AV}{l:List Ag}{k:Ag}(h:k∉l):(Cn (fD f l) k).isSome=false:=(ED f l k).trans (decide_eq_false h)
theorem Cw{f:Ag->AV}{l:List Ag}{k:Ag}(h:k∈l):Cn (fD f l) k=some (f k):=(Ho f l k).trans (if_pos h)
theorem DF{f:Ag->AV}{l:List Ag}{k:Ag}{x:AV}(h:k∉l)(e:x=f k):BH (fD f l) k x=fD f (l++[k]):=by
 unfold BH;rw[ED,decide_eq_false h,if_neg aQ,e];unfold fD;rw[bB];rfl
theorem Ip{f:Ag->AV}{l:List Ag}{k:Ag}{x:AV}(h:k∈l):BH (fD f l) k x=fD (λj=>if j=k then x else f j) l:=by
 unfold BH;rw[ED,decide_eq_true h,if_pos rfl];unfold fD;rw[aY];refine cI λj Z=>?_;show (if j=k then (k,x) else (j,f j))=(j,if j=k then x else f j)
 by_cases e:j=k
 .rw[if_pos e,if_pos e,e]
 .rw[if_neg e,if_neg e]
theorem Bq(f:Ag->AV)(l:List Ag):(fD f l).length=l.length:=an _
theorem Ih{f g:Ag->AV}{l:List Ag}(h:∀k∈l,f k=g k):fD f l=fD g l:=cI λk B=>bY rfl (h k B)
noncomputable def spm(m:Sp->Sp)(k:Ag):AV:=sp (m k)
theorem KU{s:List Sp}{k:Sp}(h:s.Nodup):(HX s k).Nodup:=by
 unfold HX
 by_cases q:k∈s
 .rw[if_pos q];exact h
 .rw[if_neg q];exact IY h q
theorem Gg{f:Ag->AV}{l:List Ag}{k:Ag}{x:AV}(e:x=f k):BH (fD f l) k x=fD f (HX l k):=by
 unfold HX
 by_cases q:k∈l
 .rw[if_pos q,Ip q]
  exact Ih λj Z=>by
   by_cases z:j=k
   .rw[if_pos z,e,z]
   .rw[if_neg z]
 .rw[if_neg q,DF q e]
end
section
noncomputable def Ea:Ap:=⟨[2224424541109078390632087655,20695101327358604866032169404574743881989488753,1953625148292055806928486503,1005348031404454183012],2,[.assign (.v 2) (.mu 4 (.list [])),.for_ (.v 3) (.meth (.v 0) 16 []) [.ite (.cmp .Lt (.call (.g 32) [(.v 3)]) (.call (.g 32) [(.sub (.v 1) (.v 3))])) [.expr (.meth (.v 2) 0 [(.tup [(.v 3),(.sub (.v 1) (.v 3))])])] []],.ret (.v 2)]⟩
noncomputable def Dr:Ap:=⟨[20695101327358604866032169404574743881989488753,4664956181807845603384547380035684,940784431544538234996],2,[.assign (.v 2) (.call (.g 37) [(.v 1)]),.ret (.and [(.cmp .In (.sub (.v 0) (.sub (.v 2) (.int 0))) (.v 2)),(.cmp .In (.sub (.v 0) (.sub (.v 2) (.int 3))) (.v 2))])]⟩
noncomputable def BG:Ap:=⟨[2224424541109078390632087655,20695101327358604866032169404574743881989488753,4664956181807845603384547380035684],2,[.ret (.mu 4 (.comp (.v 2) 2 (.meth (.v 0) 19 []) [(.call (.g 52) [(.v 1),(.v 2)])]))]⟩
noncomputable def Go:Ap:=⟨[20695101327358604866032169404574743881989488753,4664956181807845603384547380035684,2263110204230247865775030375,4097048886990926079326691637854324,1953625185185491177774776437,4259308279877045795917945842434151,448600976916592,2224424448875327235775529072],2,[.assign (.tup [(.v 2),(.v 3),(.v 4),(.v 5)]) (.call (.g 37) [(.v 1)]),.assign (.v 6) (.v 3),.assign (.v 7) (.v 4),.ite (.cmp .Eq (.sub (.v 0) (.v 2)) (.v 3)) [.assign (.v 6) (.v 4),.assign (.v 7) (.v 3)] [],.setitem (.v 0) (.v 2) (.v 6),.setitem (.v 0) (.v 6) (.v 2),.setitem (.v 0) (.v 5) (.v 7),.setitem (.v 0) (.v 7) (.v 5)]⟩
noncomputable def EO:Ap:=⟨[2224424541109078390632087655,4705521001015047487082861862846577],2,[.ret (.mu 4 (.call (.g 53) [(.v 0),(.mu 5 (.call (.g 39) [(.v 0),(.v 1)]))]))]⟩
noncomputable def D9:Ap:=⟨[2224424541109078390632087655,4705521001015047487082861862846577,4664956181807845603384547380035684,20695101327358604866032169404574743881989488753],3,[.assign (.v 3) (.mu 4 (.call (.g 39) [(.v 0),(.v 1)])),.ite (.or [(.not (.call (.g 31) [(.v 2)])),(.cmp .NotIn (.v 2) (.call (.g 53) [(.v 0),(.v 3)]))]) [.raise (.call (.g 26) [(.str "no turn there")])] [],.expr (.call (.g 54) [(.v 3),(.v 2)]),.ret (.mu 5 (.call (.g 40) [(.v 0),(.v 3)]))]⟩
noncomputable def Iz:Ap:=⟨[91018018189733985137666135094806080181247385265940457324640,79248450939308422951359488504115116927624233569666205745248,189233104125027351079044284948292633439235375036323580149648851040,90233375608933022600596502592366504807846208770953298575456],1,[.assign (.v 1) (.mu 4 (.list [])),.for_ (.v 2) (.sorted (.call (.g 5) [(.call (.g 105) [(.v 0)])]) (.g 89)) [.assign (.v 3) (.mu 5 (.call (.g 7) [(.v 0)])),.ite (.call (.g 86) [(.v 3),(.v 2)]) [.expr (.meth (.v 1) 0 [(.v 2)])] []],.ret (.v 1)]⟩
noncomputable def Gq:Ap:=⟨[90233379350378463008758525809770352769097190552470883926112,190878608682344441530269252297162114522251466896987490791215595616,189233104125027351079044284948292633439235375036323580149648851040,90233379350378998227153714054542338114227455176400177201248],3,[.try_ [.ret (.list [(.mu 4 (.call (.g 56) [(.v 0),(.v 1),(.v 2)])),(.bool true)])] (.g 18) (some 3) [.ret (.list [.none,(.call (.g 79) [(.v 3),(.int 7)])])]]⟩
noncomputable def ER:Ap:=⟨[91018018189733985137666135094806080181247385265940457324640,90233375608933022600596502592366504807846208770953298575456,189233104125027351079044284948292633439235375036323580149648851040,14278380407590158710755182503339933259032444938476215764378408524097521681295658400122009378494949097568,190878618882635509822999025773155250944502168259704035101737222240,348538358354469920392561545711964376848906820579848583725870345019719776,18197417524841213801143636359034529248444416096],3,[.assign (.v 3) (.call (.g 105) [(.v 0)]),.assign (.v 4) (.call (.g 105) [(.v 1)]),.assign (.v 5) (.comp (.v 6) 6 (.v 3) [(.cmp .NotEq (.sub (.v 3) (.v 6)) (.sub (.v 4) (.v 6)))]),.ret (.and [(.cmp .Eq (.v 5) (.list [(.v 2)])),(.cmp .Eq (.call (.g 12) [(.bin .Sub (.sub (.v 3) (.v 2)) (.sub (.v 4) (.v 2)))]) (.int 4))])]⟩
noncomputable def c_law6:Ap:=⟨[192524121870682778597944489011036038917448218529394060437475033184,43400774030903411559313583009360306713791419551580256,91018018189733985137666135094806080181247385265940457324640,90233379350378463008758525809770352769097190552470883926112,87094824741242179901205066477003389167290560711616567967840,6808462337298468928697196246786061046559072708710670994743814830514286300871838589157969722605664,18197418120334909699774667083190765414510493792,79248450939308422951359488504115116927624233569666205745248,43774917201217540882457574319925670076061253009145952,40781761134340005352671968699721311000275178949181536,81602364090076287365663357023792230995894308926153086206048,1548065105748371235835565186513590798896203790910641151088291997624785869719017095264,90233375608933022600596502592366504807846208770953298575456,87094826237816110002686160146039495392542835523475587727456],1,[.assign (.tup [(.v 1),(.v 2)]) (.call (.g 88) [(.v 0)]),.assign (.v 2) (.call (.g 87) [(.v 2),(.call (.g 72) [(.v 0),(.int 2)]),(.bin .Mod (.call (.g 72) [(.v 0),(.int 3)]) (.int 61))]),.assign (.v 3) (.call (.g 29) [(.mu 8 (.call (.g 5) [(.v 1)]))]),.assign (.v 4) (.call (.g 92) [(.v 2),(.call (.g 72) [(.v 0),(.int 4)])]),.assign (.v 5) (.mu 4 (.call (.g 5) [(.v 4)])),.assign (.v 6) (.call (.g 109) [(.v 2)]),.assign (.v 7) (.call (.g 55) [(.v 3),(.v 5)]),.ite (.or [(.not (.call (.g 1) [(.v 7),(.g 5)])),(.cmp .NotEq (.v 7) (.v 6)),(.cmp .NotEq (.v 5) (.v 4))]) [.ret (.bool false)] [],.assign (.v 8) (.call (.g 5) [(.v 7)]),.expr (.meth (.mu 5 (.call (.g 55) [(.v 3),(.v 5)])) 3 []),.assign (.v 9) (.call (.g 12) [(.call (.g 72) [(.v 0),(.int 5)])]),.assign (.v 10) (.tup [(.bin .Mod (.bin .FloorDiv (.v 9) (.int 4)) (.int 8)),(.bin .Mod (.bin .FloorDiv (.v 9) (.int 32)) (.int 8))]),.ite (.cmp .Eq (.bin .Mod (.v 9) (.int 4)) (.int 1)) [.assign (.v 10) (.sub (.list [.none,(.str "a"),(.tup [(.int 1)]),(.tup [(.bool true),(.int 1)]),(.list [(.int 1),(.int 1)]),(.tup [(.int 1),(.str "1")])]) (.bin .Mod (.bin .FloorDiv (.v 9) (.int 4)) (.int 6)))] [],.ite (.and [(.cmp .Gt (.bin .Mod (.v 9) (.int 4)) (.int 1)),(.cmp .NotEq (.v 6) (.list []))]) [.assign (.v 10) (.sub (.v 6) (.bin .Mod (.bin .FloorDiv (.v 9) (.int 4)) (.call (.g 0) [(.v 6)])))] [],.assign (.v 11) (.mu 9 (.call (.g 101) [(.v 3),(.v 5),(.v 10)])),.ite (.or [(.not (.sub (.v 11) (.int 1))),(.cmp .NotEq (.v 5) (.v 4)),(.cmp .NotEq (.v 7) (.v 8)),(.cmp .NotEq (.call (.g 55) [(.v 3),(.mu 6 (.call (.g 5) [(.v 4)]))]) (.v 6))]) [.ret (.bool false)] [],.ite (.or [(.cmp .Eq (.bin .Mod (.v 9) (.int 4)) (.int 1)),(.cmp .NotIn (.v 10) (.v 6))]) [.ret (.cmp .Is (.sub (.v 11) (.int 0)) .none)] [],.assign (.v 12) (.mu 7 (.call (.g 7) [(.v 2)])),.expr (.mu 7 (.call (.g 86) [(.v 12),(.v 10)])),.expr (.meth (.v 5) 3 []),.ite (.or [(.not (.call (.g 1) [(.sub (.v 11) (.int 0)),(.g 5)])),(.cmp .NotEq (.sub (.v 11) (.int 0)) (.call (.g 90) [(.v 12)])),(.not (.call (.g 110) [(.v 2),(.v 12),(.v 10)]))]) [.ret (.bool false)] [],.assign (.v 13) (.call (.g 56) [(.v 3),(.sub (.v 11) (.int 0)),(.v 10)]),.ret (.and [(.cmp .Eq (.v 13) (.call (.g 90) [(.v 2)])),(.cmp .Eq (.sub (.v 11) (.int 0)) (.call (.g 90) [(.v 12)])),(.cmp .Eq (.v 7) (.v 8))])]⟩
end
section
structure Lyd(P Ks:List Sp)(m:Sp->Sp)(h:Sp->Int):Prop where
 nd:Ks.Nodup
 mem:∀k,k∈Ks↔k∈P
 mt:Mt P m
 ht:HT P m h
noncomputable def JE(r:List Bool):List Int:=(ivs 0 r.length).filter λx=>r.getD (x - 0).toNat false
theorem xsOf_mem{r:List Bool}{x:Int}:x∈JE r↔bit r x:=by
 have h:=rowC_mem (y:=0) (k:=(x,0)) (r:=r) (x:=0);rw[Cs]at h;rw[im]at h;refine Iff.trans ⟨λq=>de q,λq=>?_⟩ (h.trans (and_iff_right rfl));refine X1pp (aW.mp q) λz hz e=>?_
 cases e;exact hz
def Par(G:Gr)(β:Int->Int):Prop:=∀(y:Nat) r,G[y]?=some r->HM (β y) (JE r)=true
theorem Par.cl{G:Gr}{β:Int->Int}(p:Par G β):∀k∈Ae G,flM β k∈Ae G:=λk B=>by
 refine Ao (cellsOf_mem.mp B) λY u=>?_;refine X1pp u λr y z=>?_
 have:=Kk (p _ r y) k.1 (xsOf_mem.mpr z)
 rw[ao Y]at this;unfold flM
 by_cases q:(k.1 - β k.2) % 2=0
 .rw[if_pos q]at this ⊢
  exact cellsOf_mem.mpr ⟨Y,r,y,xsOf_mem.mp this⟩
 .rw[if_neg q]at this ⊢
  exact cellsOf_mem.mpr ⟨Y,r,y,xsOf_mem.mp this⟩
structure Lay(G:Gr)(w:Nat):Prop where
 f:Flo G w
 ft:Flo (trG G w) G.length
 p:∃β,Par G β
theorem IL{w:Nat}{p:Nat×Nat}(h:p.1+p.2<=w):JE (AE w p)=ivs p.1 p.2:=by
 have up:∀{l:List Int},l.Pairwise (·<·)->l.Nodup:=λh=>h.imp λz e=>by omega
 have B:(JE (AE w p)).Pairwise (·<·):=ivs_up.filter _;have O:(ivs p.1 p.2).Pairwise (·<·):=ivs_up;refine List.Perm.eq_of_pairwise (le:=(·<·)) (λa b Z Z Y U=>by exact ai (lin [] [a,b] (.f V0 V1) [.g V0 V1] rfl Y) (lin [] [b,a] (.f V0 V1) [.g V0 V1] rfl U)) B O ((List.perm_ext_iff_of_nodup (up B) (up O)).mpr λx=>?_)
 rw[xsOf_mem,Ed h,ivs_mem]
theorem IQ{w:Nat}{L:List (Nat×Nat)}(st:Strips true w L):Par (L.map (AE w)) λy=>((L[y.toNat]?).getD (0,0)).1:=λy r z=>by
 rw[aT]at z;refine X1pr r (aU.mp z) λp u=>?_;have ok:=st.ok p (ag u);rw[IL ok.2.1];show HM (((L[(y:Int).toNat]?).getD (0,0)).1:Nat) (ivs p.1 p.2)=true;rw[b7,u];show HM p.1 (ivs p.1 p.2)=true;obtain⟨n,e⟩:∃n,p.2=2 * n:=⟨p.2 / 2,by have:=ok.2.2 rfl;exact ar (lin [p.snd % 2,p.snd / 2,p.snd] [] (.b V2 (.M 2 V1)) [.d V0 K0,.D (-1) (.A (.M 2 V1) V0) V2] rfl this (Nat.div_add_mod p.snd 2)) (lin [p.snd / 2,p.snd % 2,p.snd] [] (.b (.M 2 V0) V2) [.d (.A (.M 2 V0) V1) V2] rfl (Nat.div_add_mod p.snd 2))⟩
 rw[e];exact par_ivs _ n
theorem IR{w:Nat}{L:List (Nat×Nat)}(u:2<=w)(y:w<=6)(Y:1<=L.length)(O:L.length<=6)(st:Strips true w L):Lay (L.map (AE w)) w:=by
 have f:=IS u y Y O st;refine⟨f,tr_flo f.g ?_ (Cy st) λk B=>?_,_,IQ st⟩
 .refine X2pp f.ne λa U e Z=>?_
  rw[e];exact List.cons_ne_nil _ _
 .rw[an]at B ⊢
  exact Es st B
noncomputable def layB(G:Gr)(w:Nat):Bool:=floB G w && (floB (trG G w) G.length && G.all λr=>HM 0 (JE r))
theorem Lay.ofB{G:Gr}{w:Nat}(h:layB G w=true):Lay G w:=by
 unfold layB at h;refine Ao (aG.mp h) λO h=>?_;refine Ao (aG.mp h) λT Y=>?_;exact⟨Flo.ofB O,Flo.ofB T,λZ=>0,λy r z=>bU.mp Y r (ag z)⟩
noncomputable def fixE:Gr:=gOf ["##..##", "##..##", "######"]
noncomputable def fixF:Gr:=gOf ["######", "....##", "##..##", "##..##", "######"]
noncomputable def fixG:Gr:=gOf ["##..##", "######", "##..##", "##..##"]
noncomputable def fixH:Gr:=gOf ["##..##", "##..##", "######", "##..##", "##..##"]
theorem fixE_ok:Lay fixE 6:=Lay.ofB (by decide +kernel)
theorem fixF_ok:Lay fixF 6:=Lay.ofB (by decide +kernel)
theorem fixG_ok:Lay fixG 6:=Lay.ofB (by decide +kernel)
theorem fixH_ok:Lay fixH 6:=Lay.ofB (by decide +kernel)
theorem fixE_lit:(["##..##", "##..##", "######"].map λs=>AV.str (b6 s))=AA fixE:=DC (by decide +kernel)
theorem fixF_lit:(["######", "....##", "##..##", "##..##", "######"].map λs=>AV.str (b6 s))=AA fixF:=DC (by decide +kernel)
theorem fixG_lit:(["##..##", "######", "##..##", "##..##"].map λs=>AV.str (b6 s))=AA fixG:=DC (by decide +kernel)
theorem fixH_lit:(["##..##", "##..##", "######", "##..##", "##..##"].map λs=>AV.str (b6 s))=AA fixH:=DC (by decide +kernel)
theorem rng2:∀{h:Nat},h<=3->cu 0 ((2 * h:Nat):Int) 2=true/\AW 0 2 (Bb 0 ((2 * h:Nat):Int) 2)=(bp h).map λi:Nat=>AV.int (2 * (i:Int))
 |0,_=>⟨by decide +kernel,rfl⟩
 |1,_=>⟨by decide +kernel,rfl⟩
 |2,_=>⟨by decide +kernel,rfl⟩
 |3,_=>⟨by decide +kernel,rfl⟩
 |h+4,q=>by omega
noncomputable def tw:Bool->Sp->Sp
 |true,k=>sw k
 |false,k=>k
theorem IM(b:Bool)(k:Sp):tw b (tw b k)=k:=by cases b<;>rfl
noncomputable def tm(b:Bool)(β:Int->Int)(k:Sp):Sp:=tw b (flM β (tw b k))
theorem tm_one{b:Bool}{β:Int->Int}{u y:Int}(h:(u - β y) % 2=0):tm b β (tw b (u,y))=tw b (u+1,y):=by
 unfold tm flM;rw[IM];exact congrArg (tw b) (if_pos h)
theorem tm_two{b:Bool}{β:Int->Int}{u y:Int}(h:(u - β y) % 2=0):tm b β (tw b (u+1,y))=tw b (u,y):=by
 unfold tm flM;rw[IM];exact congrArg (tw b) ((if_neg (by dsimp only;omega)).trans (bY (dw ..) rfl))
inductive QI(avs:List AV)(V:LS)(K:KR):Prop
 |mk (G:Gr)(w:_)(b:_)(β:Int->Int)(c0:avs=[.list (AA G),.bool b])(c1:V=[])(c2:(Grid G w/\Par G β))(c3:∀Ks,Ks.Nodup->(∀k,k∈Ks↔tw b k∈Ae G)->K ⟨[.dict (fD (spm (tm b β)) Ks)],.new 0⟩ []):QI avs V K
noncomputable def fPairs:FS:=specF λavs V K Z=>QI avs V K
noncomputable def pfM(G:Gr)(b:Bool)(f:Addr)(x3 x4 x5 x6 x7 x8:Option AV):M:=[some (.list (AA G)),some (.bool b),some (.loc f 4),x3,x4,x5,x6,x7,x8]
noncomputable def pfS(f:Addr)(D:List (Ag×AV)):LS:=[.no,.no,.no,.no,.at f (.dict D)]
inductive PfJ(G:Gr)(b:Bool)(β:Int->Int)(f:Addr)(d r:List Int):M->LS->Prop
 |mk (x3 x4 x5 x6 x7 x8:Option AV)(Ks:List Sp)(D:List (Ag×AV))(hd:d++r=ivs 0 G.length)(nd:Ks.Nodup)(hm:∀k,k∈Ks↔tw b k∈Ae (G.take d.length))(eD:D=fD (spm (tm b β)) Ks):PfJ G b β f d r (pfM G b f x3 x4 x5 x6 x7 x8) (pfS f D)
inductive PfI(G:Gr)(b:Bool)(β:Int->Int)(f:Addr)(y:Int)(xs:List Int)(h:Nat)(Q:List Sp)(d r:List Nat):M->LS->Prop
 |mk (x5 x6 x7 x8:Option AV)(Ks:List Sp)(D:List (Ag×AV))(hd:d++r=bp h)(nd:Ks.Nodup)(hm:∀k,k∈Ks↔tw b k∈Q\/∃x∈xs.take (2 * d.length),tw b k=(x,y))(eD:D=fD (spm (tm b β)) Ks):PfI G b β f y xs h Q d r (pfM G b f (some (.int y)) (some (.list (xs.map .int))) x5 x6 x7 x8) (pfS f D)
theorem range_at{d r:List Nat}{i h:Nat}(e:d++i::r=bp h):i=d.length/\i<h:=by
 have:=congrArg (·[d.length]?) e
 simp only[bn (ay _),Nat.sub_self,e7]at this;obtain⟨Y,z⟩:=eK.mp this.symm;rw[gJ]at Y;rw[List.getElem_range]at z;exact⟨ar (lin [d.length,i] [] (.b V1 V0) [.D (-1) V0 V1] rfl z) (lin [d.length,i] [] (.b V0 V1) [.d V0 V1] rfl z),lin [d.length,h,i] [] (.c V2 V1) [.c V0 V1,.D (-1) V0 V2] rfl Y z⟩
theorem pf_in{G:Gr}{b:Bool}{β:Int->Int}{f:Addr}{y:Int}{xs:List Int}{h i:Nat}{Q:List Sp}{d r:List Nat}{m:M}{V:LS}{X:XL}{KK:KS}(hh:h<=3)(O:xs.length=2 * h)(pa:HM (β y) xs=true)(hQ:Q.length<=36)(j:PfI G b β f y xs h Q d (i::r) m V)(C:M->LS->Prop)(hC:∀As Ab,PfI G b β f y xs h Q (d++[i]) r As Ab->C As Ab) :
  patW true (.v 6) (.int (2 * (i:Int))) m (λAq=>wpSs ⟨true,[],[],[],[]⟩ [.assign (.tup [(.v 7),(.v 8)]) (.tup [(.tup [(.sub (.v 4) (.v 6)),(.v 3)]),(.tup [(.sub (.v 4) (.bin .Add (.v 6) (.int 1))),(.v 3)])]),.ite (.v 1) [.assign (.tup [(.v 7),(.v 8)]) (.tup [(.tup [(.v 3),(.sub (.v 4) (.v 6))]),(.tup [(.v 3),(.sub (.v 4) (.bin .Add (.v 6) (.int 1)))])])] [],.setitem (.v 2) (.v 7) (.v 8),.setitem (.v 2) (.v 8) (.v 7)] X Aq V (G4 aa V C KK)):=by
 induction j using PfI.casesOn with
 |mk x5 x6 x7 x8 Ks D hd nd hm eD =>
  obtain⟨rfl,hi⟩:=range_at hd;have Y:(d++[d.length])++r=bp h:=by rw[aM];exact hd
  obtain⟨u,e1,e2,e3,e4⟩:=par_at (i:=d.length) pa (lin [xs.length,h,d.length] [] (.c (.M 2 V2) V0) [.D (-1) V0 (.M 2 V1),.C 2 V2 V1] rfl O hi);have b1:(0:Int)<=2 * (d.length:Int)/\2 * (d.length:Int)<1000000:=by exact⟨lin [d.length] [] (.f K0 (.M 2 (.c V0))) [] rfl,lin [h,d.length] [] (.g (.M 2 (.c V1)) Ay) [.B 2 V0 K3,.C 2 V1 V0] rfl hh hi⟩
  have b2:(0:Int)<=2 * (d.length:Int)+1/\2 * (d.length:Int)+1<1000000:=by exact⟨lin [d.length] [] (.f K0 (.A (.M 2 (.c V0)) K1)) [] rfl,lin [h,d.length] [] (.g (.A (.M 2 (.c V1)) K1) Ay) [.B 2 V0 K3,.C 2 V1 V0] rfl hh hi⟩
  have a1:(xs.map AV.int)[(2 * (d.length:Int)).toNat]?=some (.int u):=by
   rw[show (2 * (d.length:Int)).toNat=2 * d.length by omega,aT,e1];rfl
  have a2:(xs.map AV.int)[(2 * (d.length:Int)+1).toNat]?=some (.int (u+1)):=by
   rw[show (2 * (d.length:Int)+1).toNat=2 * d.length+1 by omega,aT,e2];rfl
  have lK:Ks.length<=100:=by
   have:=sub_length (k:=Q.map (tw b)++(xs.take (2 * d.length)).map λx=>tw b (x,y)) nd λk hk=>aZ.mpr (((hm k).mp hk).imp (λz=>aW.mpr ⟨_,z,IM b k⟩) λ⟨x,O,e⟩=>aW.mpr ⟨x,O,by rw[<- e,IM]⟩)
   rw[aE,an,an,fQ]at this;exact lin [h,Q.length,d.length,Ks.length,min (2 * d.length) xs.length] [] (.b V3 FL) [.B 2 V0 K3,.b V1 K36,.C 2 V2 V0,.b V3 (.A V1 V4),.b V4 (.M 2 V2)] rfl hh hQ hi this (gf (2 * d.length) xs.length)
  have U:BH D (tw b (u,y)) (sp (tw b (u+1,y)))=fD (spm (tm b β)) (HX Ks (tw b (u,y))):=by
   rw[eD];exact Gg (by unfold spm;rw[tm_one e3])
  have s2:BH (BH D (tw b (u,y)) (sp (tw b (u+1,y)))) (tw b (u+1,y)) (sp (tw b (u,y)))=fD (spm (tm b β)) (HX (HX Ks (tw b (u,y))) (tw b (u+1,y))):=by
   rw[U];exact Gg (by unfold spm;rw[tm_two e3])
  have l1:D.length<=big:=At (by rw[eD,Bq];exact lin [Ks.length] [] (.b V0 AG) [.b V0 FL] rfl lK)
  have l2:(BH D (tw b (u,y)) (sp (tw b (u+1,y)))).length<=big:=At (by
   rw[U,Bq]
   have:(HX Ks (tw b (u,y))).length<=Ks.length+1:=by
    unfold HX;split
    .exact fU _
    .rw[aE];exact ay _
   exact lin [Ks.length,(HX Ks (tw b (u,y))).length] [] (.b V1 AG) [.b V0 FL,.b V1 (.A V0 K1)] rfl lK this)
  have T:∀k,k∈HX (HX Ks (tw b (u,y))) (tw b (u+1,y))↔tw b k∈Q\/∃x∈xs.take (2 * (d++[d.length]).length),tw b k=(x,y):=λk=>by
   have tk:∀z:Sp,k=tw b z↔tw b k=z:=λz=>⟨λe=>by rw[e,IM],λe=>by rw[<- e,IM]⟩
   rw[HW,HW,hm k,tk,tk,aE,cw,e4]
   constructor
   .rintro (((h|⟨x,O,e⟩)|e)|e)
    .exact .inl h
    .exact .inr ⟨x,ba _ O,e⟩
    .exact .inr ⟨u,bx _ (.head _),e⟩
    .exact .inr ⟨u+1,bx _ (.tail _ (.head _)),e⟩
   .rintro (h|⟨x,O,e⟩)
    .exact .inl (.inl (.inl h))
    .rcases aZ.mp O with O|O
     .exact .inl (.inl (.inr ⟨x,O,e⟩))
     .cases O with
      |head=>exact .inl (.inr e)
      |tail _ O =>
       cases O with|head=>exact .inr e|tail _ O=>exact nM O
  have go:∀x,C (pfM G b f (some (.int y)) (some (.list (xs.map .int))) x5 x (some (sp (tw b (u,y)))) (some (sp (tw b (u+1,y))))) (pfS f (BH (BH D (tw b (u,y)) (sp (tw b (u+1,y)))) (tw b (u+1,y)) (sp (tw b (u,y))))):=λx=>hC _ _ (.mk _ _ _ _ _ _ Y (KU (KU nd)) T s2);refine⟨b1,_,a1,b2,_,a2,?_⟩
  cases b with|false=>exact⟨rfl,l1,rfl,l2,go _⟩|true=>exact⟨b1,_,a1,b2,_,a2,rfl,l1,rfl,l2,go _⟩
theorem IN{G:Gr}{d:Nat}{u:List Bool}(h:G[d]?=some u):Ae (G.take (d+1))=Ae (G.take d)++(JE u).map λx=>(x,(d:Int)):=by
 have U:=(eK.mp h).1;rw[List.take_add_one,h];show Ae (G.take d++[u])=_;unfold Ae;rw[Cv,Cs,fQ,Nat.min_eq_left (dE U),cV]
 rfl
theorem pairs_ok:FnOk ⟨true,[],[],[],[]⟩ CZ .new 7 5 fPairs:=by
 refine .specF λavs V K X h=>?_;obtain⟨G,w,b,β,rfl,rfl,⟨g,pa⟩,hK⟩:=h;have h6:=g.h6;have w6:=g.w6;refine⟨rfl,λf=>⟨At (CL g),DI (by rw[CK];exact h6),?_⟩⟩
 refine A7 (g:=.int) (rng_grid G) (PfJ G b β f) (λd m τ j=>?_) (λd y r m τ j C hC=>?_) (d:=[]) (.mk _ _ _ _ _ _ [] [] rfl .nil (λk=>⟨λz=>(nM z),λz=>(by cases z)⟩) rfl)
 .induction j using PfJ.casesOn with
  |mk x3 x4 x5 x6 x7 x8 Ks D hd nd hm eD =>
   rw[aL]at hd;rw[hd,Az,hS]at hm;subst eD;exact⟨rfl,hK Ks nd hm⟩
 .induction j using PfJ.casesOn with
  |mk x3 x4 x5 x6 x7 x8 Ks D hd nd hm eD =>
   refine Ao (ivs_at hd) λhy T=>?_;obtain rfl:y=d.length:=by exact ai (lin [d.length] [y] (.f V0 (.c V0)) [.h V0 (.A K0 (.c V0))] rfl hy) (lin [d.length] [y] (.f (.c V0) V0) [.H (-1) V0 (.A K0 (.c V0))] rfl hy)
   have er:G[d.length]?=some G[d.length]:=aA T;generalize G[d.length]=row at er;have lr:=g.len _ (ag er);have ea:(AA G)[(d.length:Int).toNat]?=some (.str (Cb row)):=by rw[b7];exact Lh er
   have bd:(0:Int)<=d.length/\(d.length:Int)<1000000:=by exact⟨lin [d.length] [] (.f K0 (.c V0)) [] rfl,lin [bX G,d.length] [] (.g (.c V1) Ay) [.b V0 K6,.c V1 V0] rfl h6 T⟩
   refine⟨bd,_,ea,At (by rw[AY];exact lin [w,row.length] [] (.b V1 AG) [.b V0 K6,.d V1 V0] rfl w6 lr),DI (by rw[AY];exact aw (dH lr) w6),?_⟩
   refine⟨At (by rw[Fb,an,Az,lr];exact aw w6 (by decide)),?_⟩
   refine B3 (g:=.int) (f:=.int) (P:=λx=>row.getD (x - 0).toNat false) (Fb _) (λx u ys C2 Y U=>?_) ?_
   .rw[ivs_mem]at u
    refine⟨bd,_,ea,⟨lin [] [x] (.f K0 V0) [.f K0 V0] rfl u.1,lin [w,row.length] [x] (.g V0 Ay) [.b V0 K6,.d V1 V0,.g V0 (.A K0 (.c V1))] rfl w6 lr u.2⟩,_,row_at (lin [row.length,x.toNat] [x] (.c V1 V0) [.g V0 (.A K0 (.c V0)),.h (.c V1) V0] rfl u.2 (ao (lin [] [x] (.f K0 V0) [.f K0 V0] rfl u.1))),_,Ld _,?_⟩;rw[im]at Y U;exact ifB Y U
   .have pr:=pa _ _ er
    refine X1p (HL pr) λh hh=>?_;have lx:(JE row).length<=6:=by
     have:=b5 (λx=>row.getD (x - 0).toNat false) (ivs 0 row.length)
     rw[Az]at this;exact aw this (lin [w,row.length] [] (.b V1 K6) [.b V0 K6,.d V1 V0] rfl w6 lr)
    have h3:h<=3:=by exact lin [(JE row).length,h] [] (.B 2 V1 K3) [.D (-1) V0 (.M 2 V1),.b V0 K6] rfl hh lx
    have el:((JE row).map AV.int).length=2 * h:=by rw[an,hh]
    refine Ao (rng2 h3) λs2 a2=>?_;have hQ:(Ae (G.take d.length)).length<=36:=by
     have:=Cf (w:=w) (G:=G.take d.length) (y:=0) λq hq=>g.len q (List.mem_of_mem_take hq)
     have h3:(G.take d.length).length * w<=6 * 6:=dT (by rw[fQ];exact lin [bX G,d.length,min d.length (bX G)] [] (.b V2 K6) [.b V0 K6,.c V1 V0,.b V2 V1] rfl h6 T (gf d.length (bX G))) w6
     exact aw this h3
    refine⟨At (show ((JE row).map AV.int).length<=1000 by exact lin [h,(List.map AV.int (JE row)).length] [] (.b V1 AG) [.B 2 V0 K3,.d V1 (.M 2 V0)] rfl h3 el),by decide,by decide,(congrArg (λn:Nat=>cu 0 n 2) el).trans s2,?_⟩
    refine A7 (g:=λi:Nat=>AV.int (2 * (i:Int))) ((congrArg (λn:Nat=>AW 0 2 (Bb 0 n 2)) el).trans a2) (PfI G b β f d.length (JE row) h (Ae (G.take d.length))) (λd' m τ j=>?_) (λd' i r m τ j C hC=>pf_in h3 hh pr hQ j C hC) (d:=[]) (.mk _ _ _ _ Ks D rfl nd (λk=>(hm k).trans ⟨.inl,λz=>z.elim id λ⟨x,z,_⟩=>by cases z⟩) eD)
    induction j using PfI.casesOn with
    |mk x5 x6 x7 x8 Ks D O nd2 hm2 eD2 =>
     refine hC _ _ (.mk _ _ _ _ _ _ Ks D (by rw[aM];exact hd) nd2 (λk=>?_) eD2)
     rw[aL]at O;rw[hm2 k,O,gJ,<- hh,hS,aE,cw,IN er,aZ,aW];exact or_congr Iff.rfl ⟨λ⟨x,Y,U⟩=>⟨x,Y,U.symm⟩,λ⟨x,Y,U⟩=>⟨x,Y,U.symm⟩⟩
inductive QA(avs:List AV)(V:LS)(K:KR):Prop
 |mk (l:List Int)(c0:avs=[.nums l])(c1:V=[])(c2:l.length<=1000)(c3:∀G w Ks m h,Flo G w->Lyd (Ae G) Ks m h->K ⟨[],.val (.tup [.list (AA G),.dict (fD (spm m) Ks)])⟩ []):QA avs V K
noncomputable def Ig:FS:=specF λavs V K Z=>QA avs V K
noncomputable abbrev tFb:Tab:=⟨true,[],[(72,fAt),(75,Ls),(85,fPairs),(74,Lq)],[],[]⟩
theorem D2{l:List Int}{x:Int}{G:Gr}{w:Nat}{K:KR}{X:XL}(h:Lay G w)(U:∀G w Ks m h,Flo G w->Lyd (Ae G) Ks m h->K ⟨[],.val (.tup [.list (AA G),.dict (fD (spm m) Ks)])⟩ []) :
  wpSs tFb (c_lfloor_by.body.drop 3) X [some (.nums l),some (.int x),some (.list (AA G)),aa,aa] [] (λfl Z τ=>GN .val 0 (flV fl) τ K):=by
 refine X1p h.p λβ y=>?_;have g:=h.f.g;have mt:=fl_mt y.cl;have ht:=fl_ht (b:=β) (λk B=>(g.in B).2.2.1) y.cl;refine⟨G,w,_,β,rfl,rfl,⟨g,y⟩,λKs d O=>?_⟩;generalize ((x.fdiv 30).fmod 2 == 1)=b at O ⊢
 cases b with|true=>exact⟨G,w,rfl,rfl,g,U _ _ Ks _ _ h.ft ⟨d,λk=>(O k).trans (Dg g).symm,mt.sw λk=>Dg g,ht.sw mt λk=>Dg g⟩⟩|false=>exact U _ _ Ks _ _ h.f ⟨d,O,mt,ht⟩
theorem Jr:FnOk tFb c_lfloor_by .val 4 0 Ig:=by
 refine .specF λB V K X h=>?_;obtain⟨l,rfl,rfl,z,U⟩:=h;refine⟨rfl,l,0,rfl,z,rfl,l,1,rfl,z,rfl,_,_,_,rfl,rfl,λw L u Y d O st=>?_⟩;refine ifB (λZ=>?_) λZ=>D2 (IR u Y d O st) U;have y:=AZ (a:=(l.getD 0 0).fdiv 7) (b:=4) (by decide)
 refine⟨⟨y.1,Int.lt_trans y.2 (by decide)⟩,?_⟩
 rcases four y with e|e|e|e<;>rw[e]
 .exact⟨_,rfl,by have:=D2 (l:=l) (x:=l.getD 0 0) (X:=λe τ=>X e (ib ([]:LS).length τ)) fixE_ok U;rw[<- fixE_lit]at this;exact this⟩
 .exact⟨_,rfl,by have:=D2 (l:=l) (x:=l.getD 0 0) (X:=λe τ=>X e (ib ([]:LS).length τ)) fixF_ok U;rw[<- fixF_lit]at this;exact this⟩
 .exact⟨_,rfl,by have:=D2 (l:=l) (x:=l.getD 0 0) (X:=λe τ=>X e (ib ([]:LS).length τ)) fixG_ok U;rw[<- fixG_lit]at this;exact this⟩
 .exact⟨_,rfl,by have:=D2 (l:=l) (x:=l.getD 0 0) (X:=λe τ=>X e (ib ([]:LS).length τ)) fixH_ok U;rw[<- fixH_lit]at this;exact this⟩
end
section
noncomputable def up(μ:Sp->Sp)(c:Sp)(g:Sp->Sp)(j:Sp):Sp:=if j=c then μ c else g j
noncomputable def ups(μ:Sp->Sp):List Sp->(Sp->Sp)->Sp->Sp
 |[],g=>g
 |c::l,g=>ups μ l (up μ c g)
theorem ups_in{μ:Sp->Sp}{k:Sp}:∀{l:List Sp}{g:Sp->Sp},k∈l\/g k=μ k->ups μ l g k=μ k
 |[],g,h=>h.elim (λz=>by exact nM z) id
 |c::l,g,h=>ups_in (l:=l) (g:=up μ c g) (by
  unfold up
  by_cases e:k=c
  .rw[if_pos e,e];exact .inr rfl
  .rw[if_neg e];exact h.imp_left λz=>(ax.mp z).resolve_left e)
theorem JL{μ:Sp->Sp}{k:Sp}:∀{l:List Sp}{g:Sp->Sp},k∉l->ups μ l g k=g k
 |[],_,_=>rfl
 |c::l,g,h=>(JL (l:=l) λz=>h (.tail _ z)).trans (if_neg λ(e:k=c)=>h (by rw[e];exact .head _))
theorem A2{μ g:Sp->Sp}{Ks:List Sp}{c z:Sp}(h:c∈Ks)(e:μ c=z):BH (fD (spm g) Ks) c (sp z)=fD (spm (up μ c g)) Ks:=by
 rw[Ip h];refine Ih λj Z=>?_;unfold spm up
 by_cases q:j=c
 .rw[if_pos q,if_pos q,e]
 .rw[if_neg q,if_neg q]
theorem fo_mem{x y:Int}{k:Sp}:k∈[(x - 1,y - 1),(x,y - 1),(x - 1,y),(x,y)]↔Fo x y k:=by
 constructor
 .intro h
  simp only[ax,bh,or_false]at h
  rcases h with rfl|rfl|rfl|rfl
  .exact⟨.inl rfl,.inl rfl⟩
  .exact⟨.inr rfl,.inl rfl⟩
  .exact⟨.inl rfl,.inr rfl⟩
  .exact⟨.inr rfl,.inr rfl⟩
 .obtain⟨a,b⟩:=k
  intro u;refine Ao u λY z=>?_;dsimp only at Y z
  rcases Y with rfl|rfl<;>rcases z with rfl|rfl
  .exact .head _
  .exact .tail _ (.tail _ (.head _))
  .exact .tail _ (.head _)
  .exact .tail _ (.tail _ (.tail _ (.head _)))
theorem BR{x y b:Int}:mir x y false (x - 1,b)=(x,b):=bY (by show 2 * x - 1 - (x - 1)=x;exact ai (lin [] [x] (.f (.S (.S (.M 2 V0) K1) (.S V0 K1)) V0) [] rfl) (lin [] [x] (.f V0 (.S (.S (.M 2 V0) K1) (.S V0 K1))) [] rfl)) rfl
theorem DS{x y b:Int}:mir x y false (x,b)=(x - 1,b):=bY (by show 2 * x - 1 - x=x - 1;exact ai (lin [] [x] (.f (.S (.S (.M 2 V0) K1) V0) (.S V0 K1)) [] rfl) (lin [] [x] (.f (.S V0 K1) (.S (.S (.M 2 V0) K1) V0)) [] rfl)) rfl
theorem BQ{x y a:Int}:mir x y true (a,y - 1)=(a,y):=bY rfl (by show 2 * y - 1 - (y - 1)=y;exact ai (lin [] [y] (.f (.S (.S (.M 2 V0) K1) (.S V0 K1)) V0) [] rfl) (lin [] [y] (.f V0 (.S (.S (.M 2 V0) K1) (.S V0 K1))) [] rfl))
theorem DR{x y a:Int}:mir x y true (a,y)=(a,y - 1):=bY rfl (by show 2 * y - 1 - y=y - 1;exact ai (lin [] [y] (.f (.S (.S (.M 2 V0) K1) V0) (.S V0 K1)) [] rfl) (lin [] [y] (.f (.S V0 K1) (.S (.S (.M 2 V0) K1) V0)) [] rfl))
theorem fo_p{P:List Sp}{m:Sp->Sp}{x y:Int}{v:Bool}{c d B Y:Sp}(M:Mt P m)(O:c∈P)(ec:m c=B)(u:d∈P)(ed:m d=Y)(U:mir x y v c=B)(T:mir x y v d=Y)(all:∀k,Fo x y k->k∈[c,B,d,Y])(k:Sp)(f:Fo x y k):k∈P/\m k=mir x y v k:=by
 have one:∀{c B},c∈P->m c=B->mir x y v c=B->B∈P/\m B=mir x y v B:=λ{c B} h e z=>by
  have:=M c h
  rw[e]at this;exact⟨(nbP_mem.mp this.1).2.2,by rw[this.2,<- z,KA]⟩
 have:=all k f
 simp only[ax,bh,or_false]at this
 rcases this with rfl|rfl|rfl|rfl
 .exact⟨O,by rw[ec,U]⟩
 .exact one O ec U
 .exact⟨u,by rw[ed,T]⟩
 .exact one u ed T
def Tu(P:List Sp)(m:Sp->Sp)(v:Bool)(x y:Int):Prop:=∀k,Fo x y k->k∈P/\m k=mir x y v k
theorem Tu.tn{P l:List Sp}{m:Sp->Sp}{x y:Int}{v:Bool}(p:Tu P m v x y)(U:∀k,k∈l↔Fo x y k):Tn P x y v m (ups (mir x y (!v)) l m) :=
 ⟨λk f=>(p k f).1,λk f=>(p k f).2,λk f=>ups_in (.inl ((U k).mpr f)),λk f=>JL λz=>f ((U k).mp z)⟩
theorem Tn.lyd{P Ks:List Sp}{m m':Sp->Sp}{h:Sp->Int}{x y:Int}{v:Bool}(T:Tn P x y v m m')(L:Lyd P Ks m h):Lyd P Ks m' (hup x y v h):=⟨L.nd,L.mem,T.mt L.mt,T.ht L.ht⟩
theorem EqP.sp{a b:Sp}(e:a=b):EqP (Internal.sp a) (Internal.sp b) true:=.py ⟨Et a,Et b,rfl,rfl,rfl,rfl,(Il a b).trans (decide_eq_true e)⟩
theorem EqP.nsp{a b:Sp}(e:a≠b):EqP (Internal.sp a) (Internal.sp b) false:=.py ⟨Et a,Et b,rfl,rfl,rfl,rfl,(Il a b).trans (decide_eq_false e)⟩
theorem Fr{m:Sp->Sp}{Ks:List Sp}{k z:Sp}{V:LS}{K:Bool->Prop}(h:K (decide (k∈Ks/\m k=z))):eqW ((Cn (fD (spm m) Ks) k).getD .none) (sp z) V K:=by
 by_cases q:k∈Ks
 .rw[Cw q]
  refine⟨decide (m k=z),.py ⟨Et (m k),Et z,rfl,rfl,?_,?_,Il _ _⟩,?_⟩
  .rfl
  .rfl
  .rwa [show decide (k∈Ks/\m k=z)=decide (m k=z) from decide_eq_decide.mpr (and_iff_right q)]at h
 .rw[Ho,if_neg q]
  refine⟨false,.py ⟨.none,Et z,rfl,rfl,rfl,rfl,rfl⟩,?_⟩
  rwa [decide_eq_false λw=>q w.1]at h
inductive QT(avs:List AV)(V:LS)(K:KR):Prop
 |mk (a:_)(k:_)(P:List Sp)(Ks:List Sp)(m:Sp->Sp)(h:Sp->Int)(c0:avs=[.loc a 0,sp k])(c1:V=[.at a (.dict (fD (spm m) Ks))])(c2:(Ks.length<=36/\Lyd P Ks m h))(c3:(∀v m',Tn P k.1 k.2 v m m'->K ⟨[],.val (.bool true)⟩ [.at a (.dict (fD (spm m') Ks))]))(c4:((∀v,¬Tu P m v k.1 k.2)->K ⟨[],.val (.bool false)⟩ [.at a (.dict (fD (spm m) Ks))])):QT avs V K
noncomputable def fTurn:FS:=specF λavs V K Z=>QT avs V K
noncomputable def tuM(a:Addr)(x y:Int)(x8 x9 x10:Option AV):M:=[some (.loc a 0),some (sp (x,y)),some (.int x),some (.int y),some (sp (x - 1,y - 1)),some (sp (x,y - 1)),some (sp (x - 1,y)),some (sp (x,y)),x8,x9,x10]
noncomputable abbrev t0:Tab:=⟨true,[],[],[],[]⟩
theorem turn_ok:FnOk ⟨true,[],[],[],[]⟩ c_lturn .val 9 0 fTurn:=by
 refine .specF λavs V K X h=>?_;obtain⟨a,⟨x,y⟩,P,Ks,m,h,rfl,rfl,⟨hl,L⟩,hK,hN⟩:=h;have z:∀g,(fD (spm g) Ks).length<=big:=λg=>At (by rw[Bq];exact lin [Ks.length] [] (.b V0 AG) [.b V0 K36] rfl hl)
 have iK:=λk=>(L.mem k).mpr;have d:=λk=>(L.mem k).mp;have Y:¬Tu P m false x y->∀X:XL,wpSs t0 [.ite (.and [(.cmp .Eq (.meth (.v 0) 6 [(.v 4)]) (.v 6)),(.cmp .Eq (.meth (.v 0) 6 [(.v 5)]) (.v 7))]) [.assign (.v 8) (.list [(.tup [(.v 4),(.v 5)]),(.tup [(.v 6),(.v 7)])])] [.ret (.bool false)]] X (tuM a x y aa aa aa) [.at a (.dict (fD (spm m) Ks))] (kSeq (wpSs t0 (c_lturn.body.drop 3) X) (λfl Z τ=>GN .val 1 (flV fl) τ K)):=λnh X=>by
  have no:∀{a:Int},(a=x - 1\/a=x)->decide ((a,y - 1)∈Ks/\m (a,y - 1)=(a,y))=false->∀v,¬Tu P m v x y:=λha e v T=>by
   cases v with|false=>exact nh T|true=>exact of_decide_eq_false e ⟨iK _ (T _ ⟨ha,.inl rfl⟩).1,(T _ ⟨ha,.inl rfl⟩).2.trans BQ⟩
  refine⟨rfl,rfl,Fr ?_⟩;refine ifB (λO=>?_) λO=>hN (no (.inl rfl) O);refine⟨rfl,rfl,Fr ?_⟩;refine ifB (λu=>?_) λu=>hN (no (.inr rfl) u);refine Ao (of_decide_eq_true O) λc1 c2=>?_;refine Ao (of_decide_eq_true u) λd1 d2=>?_;have p:=fo_p (x:=x) (y:=y) (v:=true) L.mt (d _ c1) c2 (d _ d1) d2 BQ BQ λk f=>(dI (.cons _ (.swap ..))).mp (fo_mem.mpr f);have L':=Tu.tn (l:=[(x - 1,y - 1),(x,y - 1),(x - 1,y),(x,y)]) p (λk=>fo_mem);have q:∀k,Fo x y k->k∈Ks:=λk f=>iK k (p k f).1;have q1:=q (x - 1,y - 1) ⟨.inl rfl,.inl rfl⟩;have q2:=q (x,y - 1) ⟨.inr rfl,.inl rfl⟩;have q3:=q (x - 1,y) ⟨.inl rfl,.inr rfl⟩;have q4:=q (x,y) ⟨.inr rfl,.inr rfl⟩;have e:=(A2 (μ:=mir x y false) (g:=m) q1 BR);have U:=(A2 (μ:=mir x y false) (g:=up (mir x y false) (x - 1,y - 1) m) q2 DS);have B:=(A2 (μ:=mir x y false) (g:=up (mir x y false) (x,y - 1) (up (mir x y false) (x - 1,y - 1) m)) q3 BR);have e4:=(A2 (μ:=mir x y false) (g:=up (mir x y false) (x - 1,y) (up (mir x y false) (x,y - 1) (up (mir x y false) (x - 1,y - 1) m))) q4 DS);refine⟨rfl,z _,rfl,by rw[e];exact z _,rfl,by rw[e,U];exact z _,rfl,by rw[e,U,B];exact z _,?_⟩
  have:=hK _ _ L'
  rw[show ups (mir x y (!true)) [(x - 1,y - 1),(x,y - 1),(x - 1,y),(x,y)] m=up (mir x y false) (x,y) (up (mir x y false) (x - 1,y) (up (mir x y false) (x,y - 1) (up (mir x y false) (x - 1,y - 1) m))) from rfl,<- e4,<- B,<- U,<- e]at this
  exact this
 have hor:∀X:XL,wpSs t0 (c_lturn.body.drop 2) X (tuM a x y aa aa aa) [.at a (.dict (fD (spm m) Ks))] (λfl Z τ=>GN .val 1 (flV fl) τ K):=λX=>by
  refine⟨rfl,rfl,Fr ?_⟩;have no:∀{b:Int},(b=y - 1\/b=y)->decide ((x - 1,b)∈Ks/\m (x - 1,b)=(x,b))=false->¬Tu P m false x y:=λhb e T=>of_decide_eq_false e ⟨iK _ (T _ ⟨.inl rfl,hb⟩).1,(T _ ⟨.inl rfl,hb⟩).2.trans BR⟩;refine ifB (λO=>?_) λO=>Y (no (.inl rfl) O) X;refine⟨rfl,rfl,Fr ?_⟩;refine ifB (λu=>?_) λu=>Y (no (.inr rfl) u) X;refine Ao (of_decide_eq_true O) λc1 c2=>?_;refine Ao (of_decide_eq_true u) λd1 d2=>?_;have p:=fo_p (x:=x) (y:=y) (v:=false) L.mt (d _ c1) c2 (d _ d1) d2 BR BR λk f=>fo_mem.mpr f;have L':=Tu.tn (l:=[(x - 1,y - 1),(x - 1,y),(x,y - 1),(x,y)]) p (λk=>(dI (.cons _ (.swap ..))).trans fo_mem);have q:∀k,Fo x y k->k∈Ks:=λk f=>iK k (p k f).1;have q1:=q (x - 1,y - 1) ⟨.inl rfl,.inl rfl⟩;have q2:=q (x,y - 1) ⟨.inr rfl,.inl rfl⟩;have q3:=q (x - 1,y) ⟨.inl rfl,.inr rfl⟩;have q4:=q (x,y) ⟨.inr rfl,.inr rfl⟩;have e:=(A2 (μ:=mir x y true) (g:=m) q1 BQ);have U:=(A2 (μ:=mir x y true) (g:=up (mir x y true) (x - 1,y - 1) m) q3 DR);have B:=(A2 (μ:=mir x y true) (g:=up (mir x y true) (x - 1,y) (up (mir x y true) (x - 1,y - 1) m)) q2 BQ);have e4:=(A2 (μ:=mir x y true) (g:=up (mir x y true) (x,y - 1) (up (mir x y true) (x - 1,y) (up (mir x y true) (x - 1,y - 1) m))) q4 DR);refine⟨rfl,z _,rfl,by rw[e];exact z _,rfl,by rw[e,U];exact z _,rfl,by rw[e,U,B];exact z _,?_⟩
  have:=hK _ _ L'
  rw[show ups (mir x y (!false)) [(x - 1,y - 1),(x - 1,y),(x,y - 1),(x,y)] m=up (mir x y true) (x,y) (up (mir x y true) (x,y - 1) (up (mir x y true) (x - 1,y) (up (mir x y true) (x - 1,y - 1) m))) from rfl,<- e4,<- B,<- U,<- e]at this
  exact this
 exact⟨rfl,hor _⟩
end
section
structure Flr(P C:List Sp)(a:Sp):Prop where
 few:P.length<=36
 up:P.Pairwise lt2
 sm:∀k∈P,(0<=k.1/\k.1<6)/\0<=k.2/\k.2<6
 ne:∃P',P=a::P'
 hg:Hangs P a
 co:Cor P C
theorem Flo.flr{G:Gr}{w:Nat}(f:Flo G w):∃a,Flr (Ae G) (corC G w) a:=by
 refine X2pp f.ne λa u e h=>?_;have h6:=f.g.h6;have w6:=f.g.w6;exact⟨a,f.g.cells,Ix G,λk z=>by refine B5 (f.g.in z) λd B T y=>?_;exact⟨⟨d,lin [w] [k.fst] (.g V0 K6) [.b V0 K6,.g V0 (.c V0)] rfl w6 B⟩,T,lin [bX G] [k.snd] (.g V0 K6) [.b V0 K6,.g V0 (.c V0)] rfl h6 y⟩,⟨u,e⟩,h,f.g.cor⟩
theorem Flr.ha{P C:List Sp}{a:Sp}(f:Flr P C a):a∈P:=by
 refine X1p f.ne λu e=>?_;rw[e];exact .head _
theorem Lyd.len{P Ks:List Sp}{m:Sp->Sp}{h:Sp->Int}(L:Lyd P Ks m h)(d:P.length<=36):Ks.length<=36:=aw (sub_length L.nd λk B=>(L.mem k).mp B) d
noncomputable def all49:List Sp:=(ivs 0 7).flatMap λx=>(ivs 0 7).map λy=>(x,y)
noncomputable def hash49:List Int:=[-8458139203682520985,-1950498447580522560,7204814214171964562,-4734289103435588629,1773351652666409796,-3119722376306286570,-1010439003188656273,-5164621852614943976,8389048192121911274,-3550055125485641917,-1440771752368011620,-6333845781340707986,173794974761290439,-4719279054211405927,4685526799349444076,6794810172467074373,1901736143494378007,8409376899596376432,3516302870623680066,-8422800446983873125,-6313517073866242828,2248468952609198383,8756109708711196808,3863035679738500442,5972319052856130739,1079245023883434373,7586885779985432798,-4352217537622120393,-6348126469135965181,159514286966033244,-9131917124991031250,-2624276368889032825,3883364387212965600,-1009709641759730766,1099573731357899531,-3054609118068388172,3453031638033610253,-5838399773923454241,669240982178544184,-4223833046794152182,2283807709307846243,-7007623702649218251,-5491666964808633865,8062003079928221385,-3877100237679331806,2630540518422666619,-6660890893534397875,-153250137432399450,-5046324166405095816]
theorem hash_all:all49.map Bz=hash49:=by decide +kernel
theorem hash_dif:hash49.Nodup:=by decide +kernel
theorem Lb:(all49.map Bz).Nodup:=by rw[hash_all];exact hash_dif
theorem inj_nd{f:Sp->Int}{a b:Sp}:∀{l:List Sp},(l.map f).Nodup->a∈l->b∈l->f a=f b->a=b
 |[],_,h,_,_=>by exact nM h
 |x::l,nd,ha,Y,e=>by
  rw[bQ,bJ]at nd
  rcases ax.mp ha with z|ha<;>rcases ax.mp Y with y|Y
  .exact z.trans y.symm
  .rw[z]at e
   exact absurd (e▸de Y) nd.1
  .rw[y]at e
   exact absurd (e▸de ha) nd.1
  .exact inj_nd nd.2 ha Y e
theorem Gy{k:Sp}(h:(0<=k.1/\k.1<7)/\0<=k.2/\k.2<7):k∈all49:=eJ.mpr ⟨k.1,ivs_mem.mpr h.1,aW.mpr ⟨k.2,ivs_mem.mpr h.2,rfl⟩⟩
theorem fD_map{β:Type}{f:Ag->AV}{l:List Ag}(g:Ag->β):((fD f l).map λp=>g p.1)=l.map g:=by unfold fD;rw[aY];rfl
theorem G8{Ks:List Sp}{f:Ag->AV}(y:Ks.Nodup)(hs:∀k∈Ks,(0<=k.1/\k.1<7)/\0<=k.2/\k.2<7):((fD f Ks).map λp=>Bz p.1).Nodup:=by
 rw[fD_map];exact cz.mpr (y.imp_of_mem λ{a b} ha hb ne e=>ne (inj_nd Lb (Gy (hs a ha)) (Gy (hs b hb)) e))
inductive Q8(avs:List AV)(V:LS)(K:KR):Prop
 |mk (P:List Sp)(C:List Sp)(a:_)(Ks:List Sp)(m:Sp->Sp)(h:Sp->Int)(n:_)(c:_)(c0:avs=[.dict (fD (spm m) Ks),.int n,.int c])(c1:V=[])(c2:(Flr P C a/\Lyd P Ks m h/\0<=c/\c<=1000))(c3:∀m' h',Lyd P Ks m' h'->K ⟨[.dict (fD (spm m') Ks)],.new 0⟩ []):Q8 avs V K
noncomputable def fDrawn:FS:=specF λavs V K Z=>Q8 avs V K
noncomputable def drM(D0:List (Ag×AV))(n c:Int)(f:Addr)(x:Option AV):M:=[some (.dict D0),some (.int n),some (.int c),some (.loc f 4),x]
noncomputable def drS(f:Addr)(D:List (Ag×AV)):LS:=[.no,.no,.no,.no,.at f (.dict D)]
inductive DrJ(P Ks:List Sp)(D0:List (Ag×AV))(c:Int)(f:Addr)(d r:List Int):M->LS->Prop
 |mk (n:Int)(x:Option AV)(D:List (Ag×AV))(m:Sp->Sp)(h:Sp->Int)(L:Lyd P Ks m h)(e:D=fD (spm m) Ks):DrJ P Ks D0 c f d r (drM D0 n c f x) (drS f D)
theorem drawn_ok:FnOk ⟨true,[],[(73,EI),(86,fTurn)],[],[]⟩ Cp .new 2 5 fDrawn:=by
 refine .specF λavs V K X h=>?_;obtain⟨P,C,a,Ks,m,h,n,c,rfl,rfl,⟨F,L,h0,h1⟩,hK⟩:=h;have O:=L.len F.few;have iP:=λk=>(L.mem k).mp;have ne:fD (spm m) Ks≠[]:=λe=>by
  have:=(L.mem a).mpr F.ha
  rw[show Ks=[] from gj.mp e]at this
  exact nM this
 refine⟨rfl,.inl ⟨⟨At (by rw[Bq];exact lin [Ks.length] [] (.b V0 AG) [.b V0 K36] rfl O),ne,G8 L.nd λk hk=>by obtain⟨⟨u,U⟩,Y,z⟩:=F.sm k (iP k hk);exact⟨⟨u,lin [] [k.fst] (.g V0 K7) [.g V0 K6] rfl U⟩,Y,lin [] [k.snd] (.g V0 K7) [.g V0 K6] rfl z⟩⟩,λf=>⟨CB (by decide) (by decide) (lin [] [c] (.f Bm V0) [.f K0 V0] rfl h0) (lin [] [c] (.f V0 Ay) [.f V0 AG] rfl h1),?_⟩⟩⟩
 refine A7 (g:=.int) (J9 0 c) (DrJ P Ks (fD (spm m) Ks) c f) (λd m τ j=>?_) (λd y r m τ j C B=>?_) (d:=[]) (.mk _ _ _ m h L rfl)
 .induction j using DrJ.casesOn with|mk n x D m h L e=>subst e;exact⟨rfl,hK m h L⟩
 .induction j using DrJ.casesOn with
  |mk n x D m h L e =>
   subst e;exact⟨f,(_,_),P,Ks,m,h,rfl,rfl,⟨O,L⟩,λv m' T=>B _ _ (.mk _ _ _ m' _ (T.lyd L) rfl),λZ=>B _ _ (.mk _ _ _ m h L rfl)⟩
noncomputable def pcA(q:Ag×Ag):AV:=.tup [sp q.1,sp q.2]
noncomputable def pc?(a:AV):Option (Ag×Ag):=a.tup?.bind λl=>(two? l).bind λz=>(spot? z.1).bind λu=>(spot? z.2).bind λv=>some (u,v)
theorem pc?_out{a:AV}{q:Ag×Ag}(h:pc? a=some q):a=pcA q:=by
 refine X1pp (AD h) λl B h=>?_;refine X1pp (AD h) λz U h=>?_;refine X1pp (AD h) λu Y h=>?_;refine X1pp (AD h) λv y h=>?_;obtain rfl:=ae h;rw[AV.tup?_out B,two?_out U,spot?_out Y,spot?_out y];rfl
noncomputable def kyP(x:AV):Option Ag:=(pc? x).bind λq=>some (q.1.2,q.1.1)
noncomputable def firstF(avs:List AV):Option AV:=(one? avs).bind λa=>(kyP a).bind λk=>some (sp k)
theorem first_ok:FnOk ⟨true,[],[(89,pureF keyF)],[],[]⟩ ID .val 0 0 (pureF firstF):=by
 refine .pureF λu v h K U=>?_;refine X1pp (AD h) λa B h=>?_;refine X1pp (AD h) λk z h=>?_;refine X1pp (AD z) λq Y z=>?_;obtain rfl:=ae h;obtain rfl:=ae z;obtain rfl:=one?_out B;rw[pc?_out Y];exact⟨rfl,U⟩
theorem kyP_pure(x:AV)(p:Ag)(h:kyP x=some p):(pureF firstF).pure [x]=some (sp p):=by
 show (kyP x).bind _=_;rw[h];rfl
theorem perm_pcs{L:List AV}{H0:List (Sp×Sp)}(h:L.Perm (H0.map pcA)):∃H:List (Sp×Sp),L=H.map pcA/\H.Perm H0:=by
 have e:∀H:List (Sp×Sp),(H.map pcA).map (λx=>(pc? x).getD ((0,0),(0,0)))=H:=λH=>by
  rw[aY];exact iq H
 refine⟨L.map λx=>(pc? x).getD ((0,0),(0,0)),?_,?_⟩
 .rw[aY]
  refine(iq L).symm.trans (cI λx u=>?_);refine X1pp (aW.mp (h.mem_iff.mp u)) λq Z z=>?_;clear u;subst z
  rfl
 .have:=h.map λx=>(pc? x).getD ((0,0),(0,0))
  rwa [e]at this
theorem Hand.len{P:List Sp}{m:Sp->Sp}{H:List (Sp×Sp)}(h:Hand P m H)(u:P.length<=36):H.length<=18:=by
 have Y:=sub_length h.nd λk z=>(h.mem k).mp z;have T:(BE H).length=2 * H.length:=by
  clear h Y;unfold BE
  induction H with|nil=>rfl|cons q d y=>rw[List.flatMap_cons,aE,y];show 2+2 * d.length=2 * (d.length+1);exact ar (lin [d.length] [] (.b (.A K2 (.M 2 V0)) (.M 2 (.A V0 K1))) [] rfl) (lin [d.length] [] (.b (.M 2 (.A V0 K1)) (.A K2 (.M 2 V0))) [] rfl)
 exact lin [P.length,(BE H).length,H.length] [] (.B 2 V2 K18) [.b V0 K36,.b V1 V0,.D (-1) V1 (.M 2 V2)] rfl u Y T
theorem fD_sp(f:Ag->AV)(l:List Ag):((fD f l).map λp=>sp p.1)=l.map sp:=fD_map sp
theorem Ko(a b:Sp):AM (a.2,a.1) (b.2,b.1)=FI a b:=by
 refine Bool.eq_iff_iff.mpr (pairLt_iff.trans ?_);unfold FI
 by_cases q:a.2=b.2
 .rw[if_pos q,decide_eq_true_iff]
  exact⟨λz=>z.elim (λz=>absurd q (Int.ne_of_lt z)) (·.2),λz=>.inr ⟨q,z⟩⟩
 .rw[if_neg q,decide_eq_true_iff]
  exact⟨λz=>z.elim id λz=>absurd z.1 q,.inl⟩
theorem lay_one{P Ks:List Sp}{m:Sp->Sp}{h:Sp->Int}{H:List (Sp×Sp)}(L:Lyd P Ks m h)(U:P.Pairwise lt2)(p:H.Perm (Cx Ks m))(u:(H.map (·.1)).Pairwise lt2):H=Cx P m:=by
 have O:∀q∈H,q.1∈P/\FI q.1 (m q.1)=true/\q=(q.1,m q.1):=λq hq=>by
  refine X1pr q (aW.mp (p.mem_iff.mp hq)) λc d=>?_;refine Ao (bE.mp d) λY z=>?_;exact⟨(L.mem c).mp Y,z,rfl⟩
 have e:H.map (·.1)=P.filter λc=>FI c (m c):=GD u (U.filter _) λx=>by
  rw[bE,aW]
  constructor
  .rintro ⟨q,hq,rfl⟩;exact⟨(O q hq).1,(O q hq).2.1⟩
  .rintro ⟨Y,z⟩;exact⟨(x,m x),p.mem_iff.mpr (aW.mpr ⟨x,bE.mpr ⟨(L.mem x).mpr Y,z⟩,rfl⟩),rfl⟩
 unfold Cx;rw[<- e,aY];refine(iq H).symm.trans (cI λq hq=>(O q hq).2.2)
inductive QS(avs:List AV)(V:LS)(K:KR):Prop
 |mk (P:List Sp)(Ks:List Sp)(m:Sp->Sp)(h:Sp->Int)(c0:avs=[.dict (fD (spm m) Ks)])(c1:V=[])(c2:(P.length<=36/\P.Pairwise lt2/\Lyd P Ks m h))(c3:K ⟨[.list ((Cx P m).map pcA)],.new 0⟩ []):QS avs V K
noncomputable def fTold:FS:=specF λavs V K Z=>QS avs V K
theorem told_ok:FnOk ⟨true,[],[(89,pureF keyF)],[],[(91,kyP)]⟩ LQ .new 2 5 fTold:=by
 refine .specF λavs V K X h=>?_;obtain⟨P,Ks,m,h,rfl,rfl,⟨hP,T,L⟩,hK⟩:=h;have O:=L.len hP;have y:(Cx Ks m).length<=Ks.length:=by unfold Cx;rw[an];exact b5 _ _
 refine⟨rfl,At (by rw[an,Bq];exact lin [Ks.length] [] (.b V0 AG) [.b V0 K36] rfl O),?_⟩
 refine B3 (g:=sp) (f:=λk=>pcA (k,m k)) (P:=λk=>FI k (m k)) (fD_sp _ _) (λk B ys C Y U=>?_) ?_
 .refine⟨_,Cw B,?_⟩
  rw[<- Ko]at Y U;exact ifB (λe=>⟨_,Cw B,Y e⟩) U
 .have e:((Ks.filter λk=>FI k (m k)).map λk=>pcA (k,m k))=(Cx Ks m).map pcA:=by unfold Cx;rw[aY];rfl
  rw[e];refine⟨⟨λx u=>by refine X1pp (aW.mp u) λq Z Z0=>?_;clear u;subst Z0;rfl,by rw[an];exact lin [Ks.length,(Cx Ks m).length] [] (.c V1 K64) [.b V0 K36,.b V1 V0] rfl O y,?_⟩,λL' d a=>?_⟩
  .unfold Cx
   rw[aY,aY];refine cz.mpr ((L.nd.filter _).imp λ{a b} q (e:((a.2,a.1):Sp)=(b.2,b.1))=>q ?_);exact bY (cP e).2 (cP e).1
  .refine X1pp (perm_pcs d.1) λH Z1 p=>?_
   subst Z1;rw[lay_one L T p (cz.mpr ((cz.mp d.2).imp λ{q r} z=>pairLt_iff.mp z))];exact⟨rfl,hK⟩
inductive QB(avs:List AV)(V:LS)(K:KR):Prop
 |mk (P:List Sp)(Ks:List Sp)(m:Sp->Sp)(h:Sp->Int)(n:_)(c0:avs=[.dict (fD (spm m) Ks),.int n])(c1:V=[])(c2:(P.length<=36/\P.Pairwise lt2/\Lyd P Ks m h))(c3:∀H:List (Sp×Sp),Hand P m H->K ⟨[.list (H.map pcA)],.new 0⟩ []):QB avs V K
noncomputable def Lw:FS:=specF λavs V K Z=>QB avs V K
noncomputable def hdM(D:List (Ag×AV))(n:Int)(f:Addr)(x3 x4 x5:Option AV):M:=[some (.dict D),some (.int n),some (.loc f 4),x3,x4,x5]
noncomputable def hdS(f:Addr)(L:List AV):LS:=[.no,.no,.no,.no,.at f (.list L)]
inductive HdJ(H:List (Sp×Sp))(D:List (Ag×AV))(n:Int)(f:Addr)(d r:List (Sp×Sp)):M->LS->Prop
 |mk (x3 x4 x5:Option AV)(L:List AV)(Z:List (Sp×Sp))(hd:d++r=H)(am:Among d Z)(hl:Z.length=d.length)(e:L=Z.map pcA):HdJ H D n f d r (hdM D n f x3 x4 x5) (hdS f L)
noncomputable abbrev tHd:Tab:=⟨true,[],[(73,EI),(90,fTold)],[],[]⟩
theorem ins_pcs{Z:List (Sp×Sp)}{i:Nat}{q:Sp×Sp}:Jo (Z.map pcA) i (pcA q)=(insG Z i q).map pcA:=by
 unfold Jo insG;rw[bB,bQ,List.map_take,List.map_drop]
theorem insG_len{α:Type}{Z:List α}{i:Nat}{q:α}(h:i<=Z.length):(insG Z i q).length=Z.length+1:=by
 unfold insG;rw[aE,aK,fQ,List.length_drop];exact ar (lin [min i Z.length,i,Z.length - i,Z.length] [] (.b (.A V0 (.A V2 K1)) (.A V3 K1)) [.b V0 V1,.d (.A V2 V1) V3] rfl (gf i Z.length) (ak (lin [i,Z.length] [] (.b V0 V1) [.b V0 V1] rfl h))) ((GV i Z.length).elim (λz=>lin [Z.length,i,Z.length - i,min i Z.length] [] (.b (.A V0 K1) (.A V3 (.A V2 K1))) [.b V0 (.A V1 V2),.D (-1) V3 V1] rfl (aq.mp (ay ((Z.length) - (i)))) z) (λz=>lin [min i Z.length,Z.length,Z.length - i] [] (.b (.A V1 K1) (.A V0 (.A V2 K1))) [.D (-1) V0 V1] rfl z))
theorem hd_turn{H d r:List (Sp×Sp)}{D:List (Ag×AV)}{n:Int}{f:Addr}{q:Sp×Sp}{m:M}{V:LS}{X:XL}{KK:KS}(hH:H.length<=18)(j:HdJ H D n f d (q::r) m V)(C:M->LS->Prop)(hC:∀As Ab,HdJ H D n f (d++[q]) r As Ab->C As Ab) :
  patW true (.tup [(.v 3),(.v 4)]) (.tup [.int d.length,pcA q]) m (λAq=>wpSs tHd [.assign (.v 5) (.sub (.list [(.v 4),(.tup [(.sub (.v 4) (.int 1)),(.sub (.v 4) (.int 0))])]) (.bin .Mod (.bin .FloorDiv (.call (.g 73) [(.v 1),(.v 3)]) (.int 7)) (.int 2))),.expr (.meth (.v 2) 2 [(.bin .Mod (.bin .FloorDiv (.call (.g 73) [(.v 1),(.v 3)]) (.int 14)) (.bin .Add (.call (.g 0) [(.v 2)]) (.int 1))),(.v 5)])] X Aq V (G4 aa V C KK)):=by
 induction j using HdJ.casesOn with
 |mk x3 x4 x5 L Z hd am Y e =>
  have u:(d++[q])++r=H:=by rw[aM];exact hd
  have ld:=DD hd;have lL:L.length=d.length:=by rw[e,an,Y]
  have y:L.length<=big:=At (lin [H.length,d.length,L.length] [] (.b V2 AG) [.b V0 K18,.c V1 V0,.d V2 V1] rfl hH ld lL);generalize hN:(n * 48271+7919 * (d.length:Int)+11).fmod 2147483647=N;have two:(N.fdiv 7).fmod 2=0\/(N.fdiv 7).fmod 2=1:=by
   have:=AZ (a:=N.fdiv 7) (b:=2) (by decide);exact bT λB=>(aH (λz=>B (.inl z))).elim (λO=>lin [] [(N.fdiv 7).fmod 2] .no [.f K0 V0,.g V0 K0] rfl this.1 O) (λO=>(aH (λz=>B (.inr z))).elim (λT=>lin [] [(N.fdiv 7).fmod 2] .no [.g K0 V0,.g V0 K1] rfl O T) (λT=>lin [] [(N.fdiv 7).fmod 2] .no [.g V0 K2,.g K1 V0] rfl this.2 T))
  have at_:∀z,z=q\/z=(q.2,q.1)->C (hdM D n f (some (.int d.length)) (some (pcA q)) (some (pcA z))) (hdS f (Jo L ((N.fdiv 14).fmod (L.length+1)).toNat (pcA z))):=λz hz=>by
   have b:=AZ (a:=N.fdiv 14) (b:=(L.length:Int)+1) (lin [L.length] [] (.g K0 (.A (.c V0) K1)) [] rfl);refine hC _ _ (.mk _ _ _ _ (insG Z ((N.fdiv 14).fmod (L.length+1)).toNat z) u (am.put _ hz) ?_ (by rw[e,ins_pcs]))
   rw[insG_len (by omega),Y,aE];rfl
  have go:∀z,z=q\/z=(q.2,q.1)->wpSs tHd [.expr (.meth (.v 2) 2 [(.bin .Mod (.bin .FloorDiv (.call (.g 73) [(.v 1),(.v 3)]) (.int 14)) (.bin .Add (.call (.g 0) [(.v 2)]) (.int 1))),(.v 5)])] X (hdM D n f (some (.int d.length)) (some (pcA q)) (some (pcA z))) (hdS f L) (G4 aa (hdS f L) C KK):=λz hz=>by
   have b:=AZ (a:=N.fdiv 14) (b:=(L.length:Int)+1) (lin [L.length] [] (.g K0 (.A (.c V0) K1)) [] rfl);have b2:((N.fdiv 14).fmod (L.length+1)).toNat<=L.length:=by omega
   have:=at_ z hz
   rw[<- hN]at b b2 this;exact⟨rfl,rfl,y,λB=>lin [L.length] [] .no [.h (.A (.c V0) K1) K0] rfl B,rfl,⟨b.1,b2⟩,y,this⟩
  rcases two with U|U<;>rw[<- hN]at U
  .refine⟨by rw[U];decide,_,by rw[U];rfl,go q (.inl rfl)⟩
  .refine⟨by rw[U];decide,_,by rw[U];rfl,go (q.2,q.1) (.inr rfl)⟩
theorem Le:FnOk tHd Gp .new 4 5 Lw:=by
 refine .specF λavs V K X h=>?_;obtain⟨P,Ks,m,h,n,rfl,rfl,⟨O,T,L⟩,U⟩:=h;have u:Hand P m (Cx P m):=L.mt.lay (Bx T);refine⟨rfl,λf=>⟨P,Ks,m,h,rfl,rfl,⟨O,T,L⟩,?_⟩⟩;generalize Cx P m=H at u;show Jq true (.tup [(.v 3),(.v 4)]) _ aa _ (Cu (H.map pcA)) (hdM (fD (spm m) Ks) n f aa aa aa) (hdS f []);rw[Hf];refine Fs (g:=pcA) (HdJ H (fD (spm m) Ks) n f) (λd m' τ j=>?_) (λd q r m' τ j C B=>hd_turn (u.len O) j C B) (d:=[]) (.mk _ _ _ [] [] rfl ⟨λY z=>(nM z),.refl _⟩ rfl rfl)
 induction j using HdJ.casesOn with
 |mk x3 x4 x5 L' Z y am hl e =>
  rw[aL]at y;subst y;subst e;exact⟨rfl,U Z (u.among L.mt am)⟩
end
section
noncomputable def lrF(x y:Int)(w:Sp):Sp×Sp:=if w=(1,0) then ((x,y - 1),(x,y)) else if w=(0,1) then ((x,y),(x - 1,y)) else if w=(-1,0) then ((x - 1,y),(x - 1,y - 1)) else ((x - 1,y - 1),(x,y - 1))
theorem Hd.lr{x y:Int}{w o l r:Sp}(h:Hd x y w o l r):(l,r)=lrF x y w:=by induction h using Hd.casesOn<;>rfl
theorem Hd.o{x y:Int}{w o l r:Sp}(h:Hd x y w o l r):o=(x+w.1,y+w.2):=by
 induction h using Hd.casesOn with|r=>exact bY rfl (bH y).symm|d=>exact bY (bH x).symm rfl|l=>exact bY rfl (bH y).symm|u=>exact bY (bH x).symm rfl
theorem Hd.one{x y:Int}{w U o l r l' d:Sp}(h:Hd x y w o l r)(h':Hd x y U o l' d):l=l'/\r=d:=by
 have e:=h.o.symm.trans h'.o;have u:x+w.1=x+U.1:=congrArg dU e;have T:y+w.2=y+U.2:=congrArg fY e;obtain rfl:w=U:=bY (ai (lin [] [x,w.fst,U.fst] (.f V1 V2) [.h (.A V0 V1) (.A V0 V2)] rfl u) (lin [] [x,w.fst,U.fst] (.f V2 V1) [.H (-1) (.A V0 V1) (.A V0 V2)] rfl u)) (ai (lin [] [y,w.snd,U.snd] (.f V1 V2) [.h (.A V0 V1) (.A V0 V2)] rfl T) (lin [] [y,w.snd,U.snd] (.f V2 V1) [.H (-1) (.A V0 V1) (.A V0 V2)] rfl T));exact cP (h.lr.trans h'.lr.symm)
theorem Hd.way{x y:Int}{w o l r:Sp}(h:Hd x y w o l r):w∈ways:=by
 induction h using Hd.casesOn with|r=>exact .head _|d=>exact .tail _ (.head _)|l=>exact .tail _ (.tail _ (.head _))|u=>exact .tail _ (.tail _ (.tail _ (.head _)))
theorem Hd.near{x y:Int}{w o l r:Sp}(h:Hd x y w o l r):r∈A4 l:=by
 induction h using Hd.casesOn with|r=>exact BC EA|d=>exact EB|l=>exact EA|u=>exact BC EB
theorem Hd.abs{x y:Int}{w o l r:Sp}(h:Hd x y w o l r)(O:x.natAbs<=1000)(U:y.natAbs<=1000):(l.1.natAbs<=1000000/\l.2.natAbs<=1000000)/\r.1.natAbs<=1000000/\r.2.natAbs<=1000000:=by
 have B:(x - 1).natAbs<=1000000:=by omega
 have T:(y - 1).natAbs<=1000000:=by omega
 have Y:x.natAbs<=1000000:=by exact lin [x.natAbs] [] (.b V0 Ay) [.b V0 AG] rfl O
 have z:y.natAbs<=1000000:=by exact lin [y.natAbs] [] (.b V0 Ay) [.b V0 AG] rfl U
 induction h using Hd.casesOn with|r=>exact⟨⟨Y,T⟩,Y,z⟩|d=>exact⟨⟨Y,z⟩,B,z⟩|l=>exact⟨⟨B,z⟩,B,T⟩|u=>exact⟨⟨B,T⟩,Y,T⟩
inductive QO(avs:List AV)(V:LS)(K:KR):Prop
 |mk (Ks:List Sp)(m:Sp->Sp)(x:_)(y:_)(w:_)(o:_)(l:_)(r:_)(c0:avs=[.dict (fD (spm m) Ks),sp (x,y),sp w])(c1:V=[])(c2:(Hd x y w o l r/\x.natAbs<=1000/\y.natAbs<=1000))(c3:(l∈Ks\/r∈Ks->K ⟨[],.val (.int (stp Ks m l r))⟩ []))(c4:(¬(l∈Ks\/r∈Ks)->K ⟨[],.val .none⟩ [])):QO avs V K
noncomputable def fStep:FS:=specF λavs V K Z=>QO avs V K
theorem sg_if(k:Sp):sg k=match FK k with
 |true=>1
 |false=>-1:=rfl
theorem near_odd{l r:Sp}(h:r∈A4 l):((r.1+r.2).fmod 2 == 1)=FK l:=by
 have e:=CR h
 have:=AZ (a:=r.1+r.2) (b:=2) (by decide)
 unfold FK at e ⊢
 rcases(show (r.1+r.2).fmod 2=0\/(r.1+r.2).fmod 2=1 by exact bT λy=>(aH (λz=>y (.inl z))).elim (λO=>lin [] [(r.fst+r.snd).fmod 2] .no [.f K0 V0,.g V0 K0] rfl this.1 O) (λO=>(aH (λz=>y (.inr z))).elim (λT=>lin [] [(r.fst+r.snd).fmod 2] .no [.g K0 V0,.g V0 K1] rfl O T) (λT=>lin [] [(r.fst+r.snd).fmod 2] .no [.g V0 K2,.g K1 V0] rfl this.2 T)))with q|q<;>rw[q]at e ⊢
 .cases z:((l.1+l.2).fmod 2 == 0)<;>rw[z]at e<;>first|rfl|cases e
 .cases z:((l.1+l.2).fmod 2 == 0)<;>rw[z]at e<;>first|rfl|cases e
noncomputable def stM(D:List (Ag×AV))(x y:Int)(w l r:Sp)(x7 x8:Option AV):M:=[some (.dict D),some (sp (x,y)),some (sp w),some (.int x),some (.int y),some (sp l),some (sp r),x7,x8]
theorem HC{Ks:List Sp}{m:Sp->Sp}{x y:Int}{w l r:Sp}{X:XL}{K:KR}(h:K ⟨[],.val (.int (stp Ks m l r))⟩ []) :
  wpSs t0 (c_lstep.body.drop 4) X (stM (fD (spm m) Ks) x y w l r (some (.bool (FK l))) aa) [] (λfl Z τ=>GN .val 0 (flV fl) τ K):=by
 have Y:wpSs t0 (c_lstep.body.drop 5) X (stM (fD (spm m) Ks) x y w l r (some (.bool (FK l))) (some (.int (sg l)))) [] (λfl Z τ=>GN .val 0 (flV fl) τ K):=by
  unfold stp at h
  by_cases q:l∈Ks
  .refine⟨true,KZ q,_,Cw q,?_⟩
   by_cases e:m l=r
   .rw[if_pos ⟨q,e⟩]at h
    exact⟨true,EqP.sp e,hW (by decide +kernel),h⟩
   .rw[if_neg λz=>e z.2]at h
    exact⟨false,EqP.nsp e,h⟩
  .rw[if_neg λz=>q z.1]at h
   exact⟨false,Ew q,h⟩
 rw[sg_if]at Y;generalize FK l=b at Y ⊢
 cases b with|true=>exact Y|false=>exact Y
theorem step_ok:FnOk t0 c_lstep .val 6 0 fStep:=by
 refine .specF λavs V K X h=>?_;obtain⟨Ks,m,x,y,w,o,l,r,rfl,rfl,⟨B,hx,hy⟩,Y,O⟩:=h;have rest:wpSs t0 (c_lstep.body.drop 2) X (stM (fD (spm m) Ks) x y w l r aa aa) [] (λfl Z τ=>GN .val 0 (flV fl) τ K):=by
  refine Ao (B.abs hx hy) λbl br=>?_;have T:=near_odd B.near
  by_cases q:l∈Ks
  .exact⟨true,KZ q,true,KZ q,bl,HC (Y (.inl q))⟩
  .by_cases U:r∈Ks
   .have:=HC (X:=X) (x:=x) (y:=y) (w:=w) (Y (.inr U))
    rw[<- T]at this;exact⟨false,Ew q,true,KZ U,false,Ew q,br,this⟩
   .exact⟨false,Ew q,false,Ew U,O λz=>z.elim q U⟩
 clear Y O
 induction B using Hd.casesOn with|r=>exact⟨rfl,_,rfl,rest⟩|d=>exact⟨rfl,_,rfl,rest⟩|l=>exact⟨rfl,_,rfl,rest⟩|u=>exact⟨rfl,_,rfl,rest⟩
noncomputable def hN(h:Sp->Int)(a:Sp)(k:Ag):AV:=.int (h k - h a)
inductive QH(avs:List AV)(V:LS)(K:KR):Prop
 |mk (P:List Sp)(C:List Sp)(a:_)(Ks:List Sp)(m:Sp->Sp)(h:Sp->Int)(c0:avs=[.dict (fD (spm m) Ks)])(c1:V=[])(c2:(Flr P C a/\Lyd P Ks m h))(c3:∀fs,fs.Nodup->(∀k,k∈fs↔k∈C)->K ⟨[.dict (fD (hN h a) fs)],.new 0⟩ []):QH avs V K
noncomputable def Fu:FS:=specF λavs V K Z=>QH avs V K
noncomputable abbrev tNu:Tab:=⟨true,[],[(104,fStep)],[],[(89,kyF)]⟩
noncomputable def nuM(D:List (Ag×AV))(a:Sp)(a1 a2:Addr)(x4 x5 x6 x7:Option AV):M:=[some (.dict D),some (sp a),some (.loc a1 4),some (.loc a2 5),x4,x5,x6,x7]
noncomputable def nuS(a1 a2:Addr)(F:List (Ag×AV))(W:List AV):LS:=[.no,.no,.no,.no,.at a1 (.dict F),.at a2 (.list W)]
inductive NuJ(P C:List Sp)(a:Sp)(h:Sp->Int)(D:List (Ag×AV))(a1 a2:Addr):Nat->M->LS->Prop
 |mk (fs ws:List Sp)(x4 x5 x6 x7:Option AV)(F:List (Ag×AV))(W:List AV)(hd:Dfs (Eg P) (·∈C) a fs ws)(hM:Gi C.length fs ws<=2 * (C.length+1)+1)(eF:F=fD (hN h a) fs)(eW:W=ws.map sp):NuJ P C a h D a1 a2 (Gi C.length fs ws) (nuM D a a1 a2 x4 x5 x6 x7) (nuS a1 a2 F W)
inductive NuI(P C:List Sp)(a:Sp)(h:Sp->Int)(D:List (Ag×AV))(a1 a2:Addr)(e:Sp)(n:Nat)(d r:List Sp):M->LS->Prop
 |mk (fs ws:List Sp)(x5 x6 x7:Option AV)(F:List (Ag×AV))(W:List AV)(hd:DfsAt (Eg P) (·∈C) a fs ws e (r.map λw=>(e.1+w.1,e.2+w.2)))(hM:Gi C.length fs ws<n)(hr:∀w∈r,w∈ways)(eF:F=fD (hN h a) fs)(eW:W=ws.map sp):NuI P C a h D a1 a2 e n d r (nuM D a a1 a2 (some (sp e)) x5 x6 x7) (nuS a1 a2 F W)
theorem HP(ws:List Sp):EqP (.list (ws.map sp)) (.list []) ws.isEmpty:=by
 cases ws with
 |nil=>exact(Nice.spots []).eq (by decide)
 |cons k ws =>
  refine X1ppp (Nice.spots (k::ws)) λp Y d z=>?_;refine .py ⟨p,.list [],Y,rfl,?_,rfl,?_⟩
  .unfold dF
   rw[d,decide_eq_true (aw z (by decide))];rfl
  .have:GC (.list ((k::ws).map sp))=some (.list ((k::ws).map Et)):=by show (Dt _).map _=_;rw[HA];rfl
   rw[this]at Y;obtain rfl:=ae Y
   rfl
theorem Flr.cSm{P C:List Sp}{a:Sp}(F:Flr P C a){k:Sp}(h:k∈C):(0<=k.1/\k.1<7)/\0<=k.2/\k.2<7:=by
 refine X1pp ((F.co.mem k).mp h) λc d B=>?_;obtain⟨⟨U,u⟩,Y,y⟩:=F.sm c d;unfold Bs at B;simp only[ax,bh,or_false]at B
 have:(k.1=c.1\/k.1=c.1+1)/\(k.2=c.2\/k.2=c.2+1):=by
  rcases B with rfl|rfl|rfl|rfl
  .exact⟨.inl rfl,.inl rfl⟩
  .exact⟨.inr rfl,.inl rfl⟩
  .exact⟨.inl rfl,.inr rfl⟩
  .exact⟨.inr rfl,.inr rfl⟩
 exact⟨⟨B.elim (λz=>this.1.elim (λO=>lin [] [c.fst,k.fst] (.f K0 V1) [.f K0 V0,.H (-1) V1 V0] rfl U O) (λO=>lin [] [c.fst,k.fst] (.f K0 V1) [.f K0 V0,.H (-1) V1 (.A V0 K1)] rfl U O)) (λz=>this.1.elim (λO=>lin [] [c.fst,k.fst] (.f K0 V1) [.f K0 V0,.H (-1) V1 V0] rfl U O) (λO=>lin [] [c.fst,k.fst] (.f K0 V1) [.f K0 V0,.H (-1) V1 (.A V0 K1)] rfl U O)),B.elim (λz=>this.1.elim (λO=>lin [] [c.fst,k.fst] (.g V1 K7) [.g V0 K6,.h V1 V0] rfl u O) (λO=>lin [] [c.fst,k.fst] (.g V1 K7) [.g V0 K6,.h V1 (.A V0 K1)] rfl u O)) (λz=>this.1.elim (λO=>lin [] [c.fst,k.fst] (.g V1 K7) [.g V0 K6,.h V1 V0] rfl u O) (λO=>lin [] [c.fst,k.fst] (.g V1 K7) [.g V0 K6,.h V1 (.A V0 K1)] rfl u O))⟩,⟨B.elim (λz=>this.1.elim (λO=>this.2.elim (λT=>lin [] [c.snd,k.snd] (.f K0 V1) [.f K0 V0,.H (-1) V1 V0] rfl Y T) (λT=>lin [] [c.snd,k.snd] (.f K0 V1) [.f K0 V0,.H (-1) V1 (.A V0 K1)] rfl Y T)) (λO=>this.2.elim (λT=>lin [] [c.snd,k.snd] (.f K0 V1) [.f K0 V0,.H (-1) V1 V0] rfl Y T) (λT=>lin [] [c.snd,k.snd] (.f K0 V1) [.f K0 V0,.H (-1) V1 (.A V0 K1)] rfl Y T))) (λz=>this.1.elim (λO=>this.2.elim (λT=>lin [] [c.snd,k.snd] (.f K0 V1) [.f K0 V0,.H (-1) V1 V0] rfl Y T) (λT=>lin [] [c.snd,k.snd] (.f K0 V1) [.f K0 V0,.H (-1) V1 (.A V0 K1)] rfl Y T)) (λO=>this.2.elim (λT=>lin [] [c.snd,k.snd] (.f K0 V1) [.f K0 V0,.H (-1) V1 V0] rfl Y T) (λT=>lin [] [c.snd,k.snd] (.f K0 V1) [.f K0 V0,.H (-1) V1 (.A V0 K1)] rfl Y T))),B.elim (λz=>this.1.elim (λO=>this.2.elim (λT=>lin [] [c.snd,k.snd] (.g V1 K7) [.g V0 K6,.h V1 V0] rfl y T) (λT=>lin [] [c.snd,k.snd] (.g V1 K7) [.g V0 K6,.h V1 (.A V0 K1)] rfl y T)) (λO=>this.2.elim (λT=>lin [] [c.snd,k.snd] (.g V1 K7) [.g V0 K6,.h V1 V0] rfl y T) (λT=>lin [] [c.snd,k.snd] (.g V1 K7) [.g V0 K6,.h V1 (.A V0 K1)] rfl y T))) (λz=>this.1.elim (λO=>this.2.elim (λT=>lin [] [c.snd,k.snd] (.g V1 K7) [.g V0 K6,.h V1 V0] rfl y T) (λT=>lin [] [c.snd,k.snd] (.g V1 K7) [.g V0 K6,.h V1 (.A V0 K1)] rfl y T)) (λO=>this.2.elim (λT=>lin [] [c.snd,k.snd] (.g V1 K7) [.g V0 K6,.h V1 V0] rfl y T) (λT=>lin [] [c.snd,k.snd] (.g V1 K7) [.g V0 K6,.h V1 (.A V0 K1)] rfl y T)))⟩⟩
theorem Flr.cAbs{P C:List Sp}{a:Sp}(F:Flr P C a){k:Sp}(h:k∈C):k.1.natAbs<=1000/\k.2.natAbs<=1000:=by
 have:=F.cSm h
 omega
theorem Flr.aC{P C:List Sp}{a:Sp}(F:Flr P C a):a∈C:=(F.co.mem a).mpr ⟨a,F.ha,.head _⟩
theorem c_len{C fs:List Sp}(y:fs.Nodup)(h:∀k∈fs,k∈C):fs.length<=C.length+1:=gI (sub_length y h)
theorem nu_turn{P C Ks:List Sp}{a e w:Sp}{B:Sp->Sp}{h:Sp->Int}{a1 a2:Addr}{n:Nat}{d r:List Sp}{m:M}{V:LS}{X:XL}{KK:KS}(F:Flr P C a)(L:Lyd P Ks B h)(hn:n<=2 * (C.length+1)+1)
  (j:NuI P C a h (fD (spm B) Ks) a1 a2 e n d (w::r) m V) (CC:M->LS->Prop) (hC:∀As Ab,NuI P C a h (fD (spm B) Ks) a1 a2 e n (d++[w]) r As Ab->CC As Ab) :
  patW true (.v 5) (sp w) m (λAq=>wpSs tNu [.assign (.v 6) (.tup [(.bin .Add (.sub (.v 4) (.int 0)) (.sub (.v 5) (.int 0))),(.bin .Add (.sub (.v 4) (.int 1)) (.sub (.v 5) (.int 1)))]),.assign (.v 7) (.call (.g 104) [(.v 0),(.v 4),(.v 5)]),.ite (.and [(.cmp .IsNot (.v 7) .none),(.cmp .NotIn (.v 6) (.v 2))]) [.setitem (.v 2) (.v 6) (.bin .Add (.sub (.v 2) (.v 4)) (.v 7)),.expr (.meth (.v 3) 0 [(.v 6)])] []] X Aq V (G4 aa V CC KK)):=by
 induction j using NuI.casesOn with
 |mk fs ws x5 x6 x7 D W Y hM hr U eW =>
  refine X2p (ways_hd (x:=e.1) (y:=e.2) (hr w (.head _))) λl O hw=>?_;have eC:=Y.rc e Y.he;have u:∀w∈r,w∈ways:=λc z=>hr c (.tail _ z);have co:=F.co.few;have lf:=c_len Y.nd Y.rc;have lw:=Dfs.len (aw (dE hM) hn);refine⟨Ks,B,e.1,e.2,w,_,l,O,rfl,rfl,⟨hw,F.cAbs eC⟩,λq=>?_,λq=>?_⟩
  .have q':l∈P\/O∈P:=q.imp (L.mem _).mp (L.mem _).mp
   by_cases c:(e.1+w.1,e.2+w.2)∈fs
   .exact⟨true,⟨rfl,by rw[U];exact KZ c⟩,hC _ _ (.mk fs ws _ _ _ D W (Y.skip λZ=>c) hM u U eW)⟩
   .have eg:Eg P e (e.1+w.1,e.2+w.2):=⟨w,l,O,hw,q'⟩
    have pu:=Y.push (eg.in F.co) c;refine⟨false,⟨rfl,by rw[U];exact Ew c⟩,rfl,.int (h e - h a),by rw[U];exact Cw Y.he,rfl,At (by rw[U,Bq];exact lin [C.length,fs.length] [] (.b V1 AG) [.c V0 K64,.b V1 (.A V0 K1)] rfl co lf),rfl,rfl,At (by rw[eW,an];exact lin [C.length,ws.length] [] (.b V1 AG) [.C 2 V0 K64,.b V1 (.A (.M 2 (.A V0 K1)) K1)] rfl co lw),?_⟩
    have st:stp Ks B l O=stp P B l O:=by
     unfold stp
     by_cases z:l∈Ks/\B l=O
     .rw[if_pos z,if_pos ⟨(L.mem _).mp z.1,z.2⟩]
     .rw[if_neg z,if_neg λy=>z ⟨(L.mem _).mpr y.1,y.2⟩]
    have hh:=L.ht.way L.mt hw q';refine hC _ _ (.mk _ _ _ _ _ _ _ pu (dv (Gh (c_len pu.nd pu.rc)) hM) u ?_ (by rw[eW,bB];rfl))
    rw[U];refine DF c ?_;show AV.int (h e - h a+stp Ks B l O)=.int (h (e.1+w.1,e.2+w.2) - h a);rw[st,<- hh]
    congr 1
    show h e - h a+(h (e.1+w.1,e.2+w.2) - h e)=_;exact ai (lin [] [h (e.fst,e.snd),h a,h (e.fst+w.fst,e.snd+w.snd)] (.f (.A (.S V0 V1) (.S V2 V0)) (.S V2 V1)) [] rfl) (lin [] [h (e.fst+w.fst,e.snd+w.snd),h a,h (e.fst,e.snd)] (.f (.S V0 V1) (.A (.S V2 V1) (.S V0 V2))) [] rfl)
  .refine hC _ _ (.mk fs ws _ _ _ D W (Y.skip λz=>?_) hM u U eW)
   refine X3pp z λw' l' r'' T z=>?_;refine Ao (hw.one T) λZ0 Z1=>?_;clear T;subst Z0;subst Z1;exact absurd (z.imp (L.mem _).mpr (L.mem _).mpr) q
theorem nu_for{body:List Internal.S}{X:XL}{m:M}{V:LS}{K:KS}(h:Jq true (.v 5) (wpSs tNu body X) aa (kSeq (wpSs tNu [] X) K) (ways.map sp) m V):wpSs tNu [.for_ (.v 5) (.list [(.tup [(.int 1),(.int 0)]),(.tup [(.int 0),(.int 1)]),(.tup [(.neg (.int 1)),(.int 0)]),(.tup [(.int 0),(.neg (.int 1))])]) body] X m V K:=h
set_option tactic.hygienic true in
theorem asgW{q:Bool}{i:Nat}{a:AV}{m:M}{V:LS}{f:M->LS->KS->Prop}{K:KS}(h:f (E9 m i a) V K):patW q (.v i) a m (λAq=>kSeq f K .next Aq V):=h
theorem nu_body{P C Ks:List Sp}{a:Sp}{m:Sp->Sp}{h:Sp->Int}{X:XL}{KK:KS}(F:Flr P C a)(L:Lyd P Ks m h)(hK:∀fs y U m',fs.Nodup->(∀k,k∈fs↔k∈C)->KK (.ret (.loc y 4)) m' (nuS y U (fD (hN h a) fs) [])) :
  wpSs tNu (c_lnumbers.body.drop 1) X [some (.dict (fD (spm m) Ks)),some (sp a),aa,aa,aa,aa,aa,aa] [.no,.no,.no,.no,.no,.no] KK:=by
 intro y U;have co:=F.co.few;refine⟨NuJ P C a h (fD (spm m) Ks) y U,⟨_,.mk [a] [a] _ _ _ _ _ _ (Dfs.start F.aC) (by unfold Gi;rw[cw];exact lin [C.length+1 - 1,C.length] [] (.b (.A (.M 2 V0) K1) (.A (.M 2 (.A V1 K1)) K1)) [.B 2 V0 (.A V1 K1)] rfl (fM (C.length+1) (1))) (by unfold fD hN;rw[List.map_singleton,Int.sub_self];rfl) rfl⟩,λn m' V j=>?_⟩
 induction j using NuJ.casesOn with
 |mk fs ws x4 x5 x6 x7 D W Y hM eF T =>
  have O:W.length<=big:=by rw[T,an];exact Fm (aw (Dfs.len hM) (lin [C.length] [] (.b (.A (.M 2 (.A V0 K1)) K1) IK) [.C 2 V0 K64] rfl co))
  refine⟨rfl,ws.isEmpty,by rw[T];exact HP ws,?_⟩
  rcases List.eq_nil_or_concat ws with rfl|⟨w,e,rfl⟩
  .subst eF;clear O;subst T
   exact hK fs y U _ Y.nd (Y.corners F.hg F.co F.ha)
  .rw[eu]at Y hM ⊢
   rw[eu,bB]at T;have l1:(w++[e]).length=w.length+1:=aE;refine ifT (by cases w<;>rfl) ⟨rfl,rfl,O,sp e,by rw[T];exact List.getLast?_concat,?_⟩
   refine asgW ?_;refine nu_for (m:=nuM (fD (spm m) Ks) a y U (some (sp e)) x5 x6 x7) (V:=nuS y U D W.dropLast) ?_;refine A7 (r:=ways) (g:=sp) rfl (NuI P C a h (fD (spm m) Ks) y U e (Gi C.length fs (w++[e]))) (λd m τ j=>?_) (λd c r m τ j CC hC=>nu_turn F L hM j CC hC) (d:=[]) (.mk fs w _ _ _ _ _ (Y.pop λc z=>?_) (by unfold Gi;rw[l1];exact lin [C.length+1 - fs.length,w.length] [] (.c (.A (.M 2 V0) V1) (.A (.M 2 V0) (.A V1 K1))) [] rfl) (λZ z=>z) eF (by rw[T];exact List.dropLast_concat))
   .induction j using NuI.casesOn with|mk fs' ws' x5' x6' x7' F' W' hd' u _ eF' eW'=>exact⟨_,u,.mk fs' ws' _ _ _ _ _ _ hd'.done (aw (dE u) hM) eF' eW'⟩
   .refine X3pp z λw l r Y Z=>?_
    exact aW.mpr ⟨w,Y.way,Y.o.symm⟩
theorem Je:FnOk tNu c_lnumbers .new 7 6 Fu:=by
 refine .specF λu V K X h=>?_;obtain⟨P,C,a,Ks,m,h,rfl,rfl,⟨F,L⟩,U⟩:=h;have O:=L.len F.few;refine⟨rfl,At (by rw[Bq];exact lin [Ks.length] [] (.b V0 AG) [.b V0 K36] rfl O),?_⟩
 rw[fD_sp];refine sortW.spots L.nd F.up L.mem (dv F.few (by decide)) ?_
 exact⟨sp a,by refine X1p F.ne λY e=>?_;rw[e];rfl,nu_body F L λfs y z m' nd T=>⟨rfl,U fs nd T⟩⟩
end
section
inductive QK(avs:List AV)(V:LS)(K:KR):Prop
 |mk (t:AV)(P:List Sp)(q:_)(c0:avs=[AP t P,pcA q])(c1:V=[])(c2:(q.1∈P/\q.2∈P/\q.2∈A4 q.1))(c3:K ⟨[],.val (.bool true)⟩ []):QK avs V K
noncomputable def fPiece:FS:=specF λavs V K Z=>QK avs V K
theorem piece_ok:FnOk ⟨true,[],[(34,Lu)],[(15,fHas)],[]⟩ EU .val 0 0 fPiece:=by
 refine .specF λu V K X h=>?_;obtain⟨t,P,q,rfl,rfl,⟨B,z,Y⟩,U⟩:=h
 have:=InP.spots (A4 q.1) q.2
 rw[decide_eq_true Y]at this;exact⟨rfl,At (bf rfl),⟨rfl,rfl⟩,⟨rfl,rfl⟩,t,P,q.1,true,rfl,rfl,decide_eq_true B,⟨rfl,rfl⟩,⟨rfl,rfl⟩,t,P,q.2,true,rfl,rfl,decide_eq_true z,true,this,U⟩
inductive QJ(avs:List AV)(V:LS)(K:KR):Prop
 |mk (t:AV)(P:List Sp)(m:Sp->Sp)(b:_)(H:List (Sp×Sp))(c0:avs=[AP t P,.loc b 0])(c1:V=[.at b (.list (H.map pcA))])(c2:(P.length<=36/\P.Nodup/\Mt P m/\Hand P m H))(c3:K ⟨[.dict (fD (spm m) (BE H))],.new 0⟩ [.at b (.list (H.map pcA))]):QJ avs V K
noncomputable def D3:FS:=specF λavs V K Z=>QJ avs V K
noncomputable def paM(t:AV)(P:List Sp)(b f:Addr)(x3 x4 x5:Option AV):M:=[some (AP t P),some (.loc b 0),some (.loc f 4),x3,x4,x5]
noncomputable def paS(b f:Addr)(L:List AV)(D:List (Ag×AV)):LS:=[.at b (.list L),.no,.no,.no,.at f (.dict D)]
inductive PaJ(t:AV)(P:List Sp)(m:Sp->Sp)(b f:Addr)(H d r:List (Sp×Sp)):M->LS->Prop
 |mk (x3 x4 x5:Option AV)(D:List (Ag×AV))(hd:d++r=H)(e:D=fD (spm m) (BE d)):PaJ t P m b f H d r (paM t P b f x3 x4 x5) (paS b f (H.map pcA) D)
noncomputable abbrev tPa:Tab:=⟨true,[],[(38,fPiece)],[(16,Lx)],[]⟩
theorem LI(d:List (Ag×Ag))(q:Ag×Ag):BE (d++[q])=BE d++[q.1,q.2]:=by
 unfold BE;rw[gh];rfl
theorem pa_turn{t:AV}{P:List Sp}{B:Sp->Sp}{b f:Addr}{H d r:List (Sp×Sp)}{q:Sp×Sp}{m:M}{V:LS}{X:XL}{KK:KS}(hP:P.length<=36)(mt:Mt P B)(u:Hand P B H)(j:PaJ t P B b f H d (q::r) m V)(C:M->LS->Prop)(hC:∀As Ab,PaJ t P B b f H (d++[q]) r As Ab->C As Ab) :
  patW true (.v 3) (pcA q) m (λAq=>wpSs tPa [.ite (.not (.call (.g 38) [(.v 0),(.v 3)])) [.raise (.call (.g 23) [(.str "no piece of the floor")])] [],.for_ (.tup [(.v 4),(.v 5)]) (.list [(.v 3),(.slice (.v 3) .none .none (.neg (.int 1)))]) [.ite (.cmp .In (.v 4) (.v 2)) [.raise (.call (.g 23) [(.str "a cell that is covered twice")])] [],.setitem (.v 2) (.v 4) (.v 5)]] X Aq V (G4 (some 0) V C KK)):=by
 induction j using PaJ.casesOn with
 |mk x3 x4 x5 D y e =>
  have hq:q∈H:=by rw[<- y];exact bx _ (.head _)
  refine Ao (u.at_ q hq) λO T=>?_;refine Ao (mt _ O) λn1 U=>?_;rw[<- T]at n1 U;obtain⟨_,n3,n4⟩:=nbP_mem.mp n1;have nd:=u.nd;rw[<- y,CU]at nd;have nd:(BE d++(q.1::q.2::BE r)).Nodup:=nd;have f1:q.1∉BE d:=λz=>(cC.mp nd).2.2 _ z _ (.head _) rfl;have f2:q.2∉BE d++[q.1]:=λz=>(aZ.mp z).elim (λz=>(cC.mp nd).2.2 _ z _ (.tail _ (.head _)) rfl) λz=>(bJ.mp (cC.mp nd).2.1).1 (by rw[<- aR.mp z];exact .head _)
  have l1:(BE d).length<=36:=by
   have:=sub_length (l:=BE d) (k:=P) (cC.mp nd).1 λk hk=>(u.mem k).mp (by rw[<- y,CU];exact ba _ hk)
   exact lin [P.length,(BE d).length] [] (.b V1 K36) [.b V0 K36,.b V1 V0] rfl hP this
  have Y:BH D q.1 (sp q.2)=fD (spm B) (BE d++[q.1]):=by rw[e];exact DF f1 (by unfold spm;rw[T])
  have s2:BH (BH D q.1 (sp q.2)) q.2 (sp q.1)=fD (spm B) (BE (d++[q])):=by rw[Y,LI,DF f2 (by unfold spm;rw[U]),aM];rfl
  refine⟨t,P,q,rfl,rfl,⟨O,n4,n3⟩,?_⟩;refine⟨false,⟨rfl,by rw[e];exact(ED _ _ _).trans (decide_eq_false f1)⟩,rfl,At (by rw[e,Bq];exact lin [(BE d).length] [] (.b V0 AG) [.b V0 K36] rfl l1),?_⟩
  refine⟨false,⟨rfl,by rw[Y];exact(ED _ _ _).trans (decide_eq_false f2)⟩,rfl,At (by rw[Y,Bq,aE];show _+1<=_;exact lin [(BE d).length] [] (.b (.A V0 K1) AG) [.b V0 K36] rfl l1),?_⟩
  exact⟨rfl,hC _ _ (.mk _ _ _ _ (by rw[aM];exact y) s2)⟩
theorem GP:FnOk tPa CY .new 4 4 D3:=by
 refine .specF λO V K X h=>?_;obtain⟨t,P,m,b,H,rfl,rfl,⟨u,T,M,z⟩,U⟩:=h;have y:=same_length z.nd T z.mem;refine⟨rfl,rfl,λf=>⟨rfl,?_⟩⟩;refine A7 (r:=H) (g:=pcA) rfl (PaJ t P m b f H) (λd m' τ j=>?_) (λd q r m' τ j C B=>pa_turn u M z j C B) (d:=[]) (.mk _ _ _ _ rfl rfl)
 induction j using PaJ.casesOn with
 |mk x3 x4 x5 D Y e =>
  rw[aL]at Y;clear z;subst Y;subst e;refine⟨rfl,At (by rw[Bq];exact lin [P.length,(BE d).length] [] (.b V1 AG) [.b V0 K36,.d V1 V0] rfl u y),⟨rfl,rfl⟩,⟨rfl,rfl⟩,t,P,rfl,lin [P.length] [] (.b V0 AG) [.b V0 K36] rfl u,rfl,At (by rw[an];exact lin [P.length] [] (.b V0 AG) [.b V0 K36] rfl u),ifF ?_ ⟨rfl,U⟩⟩
  rw[Bq,an,y,beq_self_eq_true];rfl
end
section
noncomputable def tnB(m:Sp->Sp)(k:Sp):Bool:=decide (m (k.1 - 1,k.2 - 1)∈Bt k) && decide (m (k.1,k.2)∈Bt k)
inductive QE(K:KR):List AV->LS->Prop
 |mk (b:_)(k:_)(Ks:List Sp)(m:Sp->Sp)(c0:(∀c∈Bt k,c∈Ks))(c1:K ⟨[],.val (.bool (tnB m k))⟩ [.at b (.dict (fD (spm m) Ks))]):QE K ([.loc b 0,sp k]) ([.at b (.dict (fD (spm m) Ks))])
noncomputable def fIst:FS:=specF λavs V K Z=>QE K avs V
theorem ist_ok:FnOk ⟨true,[],[(37,Ie)],[],[]⟩ Dr .val 1 0 fIst:=by
 refine .specF λu V K X h=>?_;refine QE.casesOn h λb k Ks m B U=>?_;refine⟨rfl,_,rfl,rfl,_,Cw (B (k.1 - 1,k.2 - 1) (.head _)),_,InP.spots (Bt k) _,?_⟩;unfold tnB at U;refine ifB (λe=>?_) λe=>by rw[e]at U;exact U
 rw[e]at U;exact⟨_,rfl,rfl,_,Cw (B (k.1,k.2) (.tail _ (.tail _ (.tail _ (.head _))))),_,InP.spots (Bt k) _,U⟩
inductive Q7(K:KR):List AV->LS->Prop
 |mk (t:AV)(P:List Sp)(C:List Sp)(b:_)(Ks:List Sp)(m:Sp->Sp)(c0:(P.length<=100/\Cor P C/\∀k∈P,k∈Ks))(c1:K ⟨[.list (((innL P C).filter (tnB m)).map sp)],.new 0⟩ [.at b (.dict (fD (spm m) Ks))]):Q7 K ([AP t P,.loc b 0]) ([.at b (.dict (fD (spm m) Ks))])
noncomputable def fCt:FS:=specF λavs V K Z=>Q7 K avs V
theorem innL_in{P C:List Sp}{k:Sp}(h:k∈innL P C):∀c∈Bt k,c∈P:=λc d =>
 of_decide_eq_true (bU.mp (bE.mp h).2 c d)
theorem ct_ok{ex:List Nat}:FnOk ⟨true,ex,[(52,fIst)],[(19,fInner)],[]⟩ BG .new 1 4 fCt:=by
 refine .specF λavs V K X h=>?_;refine Q7.casesOn h λt P C b Ks m hz Y=>?_;refine Bl hz λT B y=>?_;have u:=B.few;have U:(innL P C).length<=C.length:=b5 _ _;refine⟨rfl,⟨rfl,rfl⟩,⟨rfl,rfl⟩,t,P,C,rfl,rfl,T,B,At (by rw[an];exact lin [C.length,(innL P C).length] [] (.b V1 AG) [.c V0 K64,.b V1 V0] rfl u U),?_⟩
 refine B3 (r:=innL P C) (g:=sp) (f:=sp) (P:=tnB m) rfl (λk z ys C' h1 O=>?_) λa=>⟨rfl,Y⟩;exact⟨b,k,Ks,m,λc d=>y c (innL_in z c d),ifB h1 O⟩
inductive QP(K:KR):List AV->LS->Prop
 |mk (a:_)(k:_)(P:List Sp)(Ks:List Sp)(m:Sp->Sp)(h:Sp->Int)(v:_)(c0:(Ks.length<=36/\Lyd P Ks m h/\Tu P m v k.1 k.2))(c1:∀m',Tn P k.1 k.2 v m m'->K ⟨[],.val .none⟩ [.at a (.dict (fD (spm m') Ks))]):QP K ([.loc a 0,sp k]) ([.at a (.dict (fD (spm m) Ks))])
noncomputable def fTat:FS:=specF λavs V K Z=>QP K avs V
theorem tat_ok{ex:List Nat}:FnOk ⟨true,ex,[(37,Ie)],[],[]⟩ Go .val 6 0 fTat:=by
 refine .specF λavs V K X h=>?_;refine QP.casesOn h λa k P Ks m h v hz hK=>?_;obtain⟨x,y⟩:=k;refine Bl hz λhl L T=>?_;have O:∀g,(fD (spm g) Ks).length<=big:=λg=>At (by rw[Bq];exact lin [Ks.length] [] (.b V0 AG) [.b V0 K36] rfl hl)
 have q:∀k,Fo x y k->k∈Ks:=λk f=>(L.mem k).mpr (T k f).1;have f1:Fo x y (x - 1,y - 1):=⟨.inl rfl,.inl rfl⟩;have u:=q (x - 1,y - 1) f1;have q2:=q (x,y - 1) ⟨.inr rfl,.inl rfl⟩;have q3:=q (x - 1,y) ⟨.inl rfl,.inr rfl⟩;have q4:=q (x,y) ⟨.inr rfl,.inr rfl⟩;have U:=(T _ f1).2
 cases v with
 |false =>
  rw[BR]at U
  have:=hK _ (T.tn (l:=[(x - 1,y - 1),(x - 1,y),(x,y),(x,y - 1)]) λk=>(dI (.cons _ ((List.Perm.cons _ (.swap ..)).trans (.swap ..)))).trans fo_mem)
  have e:=(A2 (μ:=mir x y true) (g:=m) u BQ);have d:=(A2 (μ:=mir x y true) (g:=up (mir x y true) (x - 1,y - 1) m) q3 DR);have B:=(A2 (μ:=mir x y true) (g:=up (mir x y true) (x - 1,y) (up (mir x y true) (x - 1,y - 1) m)) q4 DR);have Y:=(A2 (μ:=mir x y true) (g:=up (mir x y true) (x,y) (up (mir x y true) (x - 1,y) (up (mir x y true) (x - 1,y - 1) m))) q2 BQ);refine⟨rfl,rfl,_,Cw u,true,EqP.sp U,rfl,O _,rfl,by rw[e];exact O _,rfl,by rw[e,d];exact O _,rfl,by rw[e,d,B];exact O _,?_⟩
  rw[show ups (mir x y (!false)) [(x - 1,y - 1),(x - 1,y),(x,y),(x,y - 1)] m=up (mir x y true) (x,y - 1) (up (mir x y true) (x,y) (up (mir x y true) (x - 1,y) (up (mir x y true) (x - 1,y - 1) m))) from rfl,<- Y,<- B,<- d,<- e]at this
  exact this
 |true =>
  rw[BQ]at U;have ne:m (x - 1,y - 1)≠(x,y - 1):=λz=>by
   have:x - 1=x:=congrArg dU (U.symm.trans z)
   exact lin [] [x] .no [.H (-1) (.S V0 K1) V0] rfl this
  have:=hK _ (T.tn (l:=[(x - 1,y - 1),(x,y - 1),(x,y),(x - 1,y)]) λk=>(dI (.cons _ (.cons _ (.swap ..)))).trans fo_mem)
  have e:=(A2 (μ:=mir x y false) (g:=m) u BR);have d:=(A2 (μ:=mir x y false) (g:=up (mir x y false) (x - 1,y - 1) m) q2 DS);have B:=(A2 (μ:=mir x y false) (g:=up (mir x y false) (x,y - 1) (up (mir x y false) (x - 1,y - 1) m)) q4 DS);have Y:=(A2 (μ:=mir x y false) (g:=up (mir x y false) (x,y) (up (mir x y false) (x,y - 1) (up (mir x y false) (x - 1,y - 1) m))) q3 BR);refine⟨rfl,rfl,_,Cw u,false,EqP.nsp ne,rfl,O _,rfl,by rw[e];exact O _,rfl,by rw[e,d];exact O _,rfl,by rw[e,d,B];exact O _,?_⟩
  rw[show ups (mir x y (!true)) [(x - 1,y - 1),(x,y - 1),(x,y),(x - 1,y)] m=up (mir x y false) (x - 1,y) (up (mir x y false) (x,y) (up (mir x y false) (x,y - 1) (up (mir x y false) (x - 1,y - 1) m))) from rfl,<- Y,<- B,<- d,<- e]at this
  exact this
inductive QG(K:KR):List AV->LS->Prop
 |mk (t:AV)(P:List Sp)(a:_)(Ks:List Sp)(m:Sp->Sp)(c0:(P.length<=36/\∀k∈P,k∈Ks))(c1:K ⟨[.list ((Cx P m).map pcA)],.new 0⟩ [.at a (.dict (fD (spm m) Ks))]):QG K ([AP t P,.loc a 0]) ([.at a (.dict (fD (spm m) Ks))])
noncomputable def fLay:FS:=specF λavs V K Z=>QG K avs V
noncomputable def lyM(t:AV)(P:List Ag)(a f:Addr)(x:Option AV):M:=[some (AP t P),some (.loc a 0),some (.loc f 4),x]
noncomputable def lyS(a f:Addr)(D:List (Ag×AV))(L:List AV):LS:=[.at a (.dict D),.no,.no,.no,.at f (.list L)]
inductive LyJ(t:AV)(P:List Ag)(a f:Addr)(m:Sp->Sp)(D:List (Ag×AV))(d r:List Ag):M->LS->Prop
 |mk (x:Option AV)(L:List AV)(hd:d++r=P)(e:L=(Cx d m).map pcA):LyJ t P a f m D d r (lyM t P a f x) (lyS a f D L)
theorem layM_len(P:List Sp)(m:Sp->Sp):(Cx P m).length<=P.length:=by
 unfold Cx;rw[an];exact b5 _ _
theorem F4{d:List Sp}{m:Sp->Sp}{c:Sp}:Cx (d++[c]) m=Cx d m++Cx [c] m:=by
 unfold Cx;rw[ef,bB]
theorem lay_ok{ex:List Nat}:FnOk ⟨true,ex,[(32,pureF keyF)],[(16,Lx)],[]⟩ Ea .new 2 4 fLay:=by
 refine .specF λavs V K X h=>?_;refine QG.casesOn h λt P a Ks m hz hK=>?_;refine Ao hz λY O=>?_;refine⟨rfl,λf=>⟨⟨rfl,rfl⟩,⟨rfl,rfl⟩,t,P,rfl,aw Y (by decide),rfl,?_⟩⟩
 refine A7 (r:=P) (g:=sp) rfl (LyJ t P a f m (fD (spm m) Ks)) (λd m' τ j=>?_) (λd c r m' τ j C B=>?_) (d:=[]) (.mk _ [] rfl rfl)
 .induction j using LyJ.casesOn with
  |mk x L y e =>
   rw[aL]at y;clear hz Y O;subst y;subst e;exact⟨rfl,hK⟩
 .induction j using LyJ.casesOn with
  |mk x L y e =>
   have U:c∈Ks:=O c (by rw[<- y];exact bx _ (.head _))
   have T:(d++[c])++r=P:=by rw[aM];exact y
   have u:L.length<=big:=At (by
    have h1:=layM_len d m;have h2:=DD y;rw[e,an];exact lin [P.length,(Cx d m).length,d.length] [] (.b V1 AG) [.b V0 K36,.b V1 V2,.c V2 V0] rfl Y h1 h2)
   refine⟨rfl,_,Cw U,?_⟩;refine ifB (λz=>?_) λz=>?_
   .refine⟨rfl,rfl,_,Cw U,rfl,u,B _ _ (.mk _ _ T ?_)⟩
    have z:=(Ko c (m c)).symm.trans z;rw[F4,bB,<- e];unfold Cx;rw[c7 (p:=λc=>FI c (m c)) z];rfl
   .refine B _ _ (.mk _ _ T ?_)
    have z:=(Ko c (m c)).symm.trans z;rw[F4,e];unfold Cx;rw[c8 (p:=λc=>FI c (m c)) (by rw[z];decide)]
    simp
end
section
noncomputable def tuB(P:List Sp)(m:Sp->Sp)(k:Sp):Bool:=(Bt k).all (λc=>decide (c∈P)) && tnB m k
theorem fo_round{k c:Sp}:c∈Bt k↔Fo k.1 k.2 c:=fo_mem
theorem Kz{P:List Sp}{m:Sp->Sp}{x y:Int}{c:Sp}(M:Mt P m)(hc:c∈P)(fc:Fo x y c)(h:m c∈Bt (x,y)):∃v,m c=mir x y v c:=by
 have hn:=(nbP_mem.mp (M c hc).1).2.1;have fm:=fo_round.mp h;obtain⟨a,b⟩:=c;generalize m (a,b)=z at hn fm ⊢;obtain⟨u,w⟩:=z;refine Ao fc λh1 T=>?_;refine Ao fm λh3 O=>?_;dsimp only at h1 T h3 O;simp only[A4,ax,et,bh,or_false]at hn
 by_cases e:w=b
 .exact⟨false,bY (by show u=2 * x - 1 - a;omega) e⟩
 .exact⟨true,bY (by show u=a;omega) (by show w=2 * y - 1 - b;exact ai (h1.elim (λY=>(aH e).elim (λB=>T.elim (λd=>lin [] [w,b,y] (.f V0 (.S (.S (.M 2 V2) K1) V1)) [.g V0 V1,.H 2 V1 (.S V2 K1)] rfl B d) (λd=>lin [] [w,b,y] (.f V0 (.S (.S (.M 2 V2) K1) V1)) [.g V0 V1,.H 2 V1 V2] rfl B d)) (λB=>O.elim (λU=>lin [] [b,w,y] (.f V1 (.S (.S (.M 2 V2) K1) V0)) [.g V0 V1,.H 2 V1 (.S V2 K1)] rfl B U) (λU=>lin [] [b,w,y] (.f V1 (.S (.S (.M 2 V2) K1) V0)) [.g V0 V1,.H 2 V1 V2] rfl B U))) (λY=>(aH e).elim (λB=>T.elim (λd=>lin [] [w,b,y] (.f V0 (.S (.S (.M 2 V2) K1) V1)) [.g V0 V1,.H 2 V1 (.S V2 K1)] rfl B d) (λd=>lin [] [w,b,y] (.f V0 (.S (.S (.M 2 V2) K1) V1)) [.g V0 V1,.H 2 V1 V2] rfl B d)) (λB=>O.elim (λU=>lin [] [b,w,y] (.f V1 (.S (.S (.M 2 V2) K1) V0)) [.g V0 V1,.H 2 V1 (.S V2 K1)] rfl B U) (λU=>lin [] [b,w,y] (.f V1 (.S (.S (.M 2 V2) K1) V0)) [.g V0 V1,.H 2 V1 V2] rfl B U)))) (h1.elim (λY=>(aH e).elim (λB=>O.elim (λU=>lin [] [w,b,y] (.f (.S (.S (.M 2 V2) K1) V1) V0) [.g V0 V1,.H (-2) V0 (.S V2 K1)] rfl B U) (λU=>lin [] [w,b,y] (.f (.S (.S (.M 2 V2) K1) V1) V0) [.g V0 V1,.H (-2) V0 V2] rfl B U)) (λB=>T.elim (λd=>lin [] [b,w,y] (.f (.S (.S (.M 2 V2) K1) V0) V1) [.g V0 V1,.H (-2) V0 (.S V2 K1)] rfl B d) (λd=>lin [] [b,w,y] (.f (.S (.S (.M 2 V2) K1) V0) V1) [.g V0 V1,.H (-2) V0 V2] rfl B d))) (λY=>(aH e).elim (λB=>O.elim (λU=>lin [] [w,b,y] (.f (.S (.S (.M 2 V2) K1) V1) V0) [.g V0 V1,.H (-2) V0 (.S V2 K1)] rfl B U) (λU=>lin [] [w,b,y] (.f (.S (.S (.M 2 V2) K1) V1) V0) [.g V0 V1,.H (-2) V0 V2] rfl B U)) (λB=>T.elim (λd=>lin [] [b,w,y] (.f (.S (.S (.M 2 V2) K1) V0) V1) [.g V0 V1,.H (-2) V0 (.S V2 K1)] rfl B d) (λd=>lin [] [b,w,y] (.f (.S (.S (.M 2 V2) K1) V0) V1) [.g V0 V1,.H (-2) V0 V2] rfl B d)))))⟩
theorem tu_of{P:List Sp}{m:Sp->Sp}(M:Mt P m){k:Sp}(h:tuB P m k=true):∃v,Tu P m v k.1 k.2:=by
 obtain⟨x,y⟩:=k;refine Ao (aG.mp h) λh1 T=>?_;refine Ao (aG.mp T) λT h3=>?_;have B:∀c,Fo x y c->c∈P:=λc f=>of_decide_eq_true (bU.mp h1 c (fo_round.mpr f));have O:Fo x y (x - 1,y - 1):=⟨.inl rfl,.inl rfl⟩;have d:Fo x y (x,y):=⟨.inr rfl,.inr rfl⟩;refine X1p (Kz M (B _ O) O (of_decide_eq_true T)) λv u=>?_;refine X1p (Kz M (B _ d) d (of_decide_eq_true h3)) λw U=>?_;have Y:=(M _ (B _ O)).2;have z:=(M _ (B _ d)).2;rw[u]at Y;rw[U]at z;dsimp only
 cases v with
 |false =>
  rw[BR]at Y u
  cases w with
  |false=>rw[DS]at U;exact⟨false,fo_p M (B _ O) u (B _ d) U BR DS λk f=>(dI (.cons _ (.cons _ (.swap ..)))).mp (fo_mem.mpr f)⟩
  |true =>
   rw[DR,Y]at z
   have:x - 1=x:=congrArg dU z
   omega
 |true =>
  rw[BQ]at Y u
  cases w with
  |false =>
   rw[DS,Y]at z
   have:y - 1=y:=congrArg fY z
   omega
  |true=>rw[DR]at U;exact⟨true,fo_p M (B _ O) u (B _ d) U BQ DR λk f=>(dI (.cons _ ((List.Perm.swap ..).trans (.cons _ (.swap ..))))).mp (fo_mem.mpr f)⟩
theorem of_tu{P:List Sp}{m:Sp->Sp}{k:Sp}{v:Bool}(T:Tu P m v k.1 k.2):tuB P m k=true:=by
 have on:∀c,Fo k.1 k.2 c->decide (m c∈Bt k)=true:=λc f=>decide_eq_true (fo_round.mpr (by rw[(T c f).2];exact F1 f))
 refine aG.mpr ⟨bU.mpr λc d=>decide_eq_true (T c (fo_round.mp d)).1,aG.mpr ⟨on _ ⟨.inl rfl,.inl rfl⟩,on _ ⟨.inr rfl,.inr rfl⟩⟩⟩
theorem inn_tu(P C:List Sp)(m:Sp->Sp):(innL P C).filter (tnB m)=C.filter (tuB P m):=by
 unfold innL;rw[List.filter_filter];refine List.filter_congr λk Z=>?_;unfold tuB;exact Bool.and_comm _ _
theorem Tu.cor{P C:List Sp}{m:Sp->Sp}{v:Bool}{x y:Int}(T:Tu P m v x y)(B:Cor P C):(x,y)∈C:=(B.mem _).mpr ⟨(x,y),(T _ ⟨.inr rfl,.inr rfl⟩).1,.head _⟩
inductive QV(K:KR):List AV->LS->Prop
 |mk (P:List Sp)(C:List Sp)(a:_)(Ks:List Sp)(m:Sp->Sp)(h:Sp->Int)(c0:(Flr P C a/\Lyd P Ks m h))(c1:K ⟨[.list ((C.filter (tuB P m)).map sp)],.new 0⟩ []):QV K ([.dict (fD (spm m) Ks)]) ([])
noncomputable def fTurns:FS:=specF λavs V K Z=>QV K avs V
noncomputable def tsM(D:List (Ag×AV))(f:Addr)(x2 x3:Option AV):M:=[some (.dict D),some (.loc f 4),x2,x3]
noncomputable def tsS(f:Addr)(L:List AV)(s5:Slot):LS:=[.no,.no,.no,.no,.at f (.list L),s5]
inductive TsJ(P C Ks:List Sp)(m:Sp->Sp)(f:Addr)(d r:List Sp):M->LS->Prop
 |mk (x2 x3:Option AV)(L:List AV)(s5:Slot)(hd:d++r=C)(e:L=(d.filter (tuB P m)).map sp):TsJ P C Ks m f d r (tsM (fD (spm m) Ks) f x2 x3) (tsS f L s5)
theorem turns_ok:FnOk ⟨true,[],[(105,Fu),(86,fTurn)],[],[(89,kyF)]⟩ Iz .new 3 6 fTurns:=by
 refine .specF λavs V K X h=>?_;refine QV.casesOn h λP C a Ks m h hz hK=>?_;refine Ao hz λF L=>?_;have lK:=L.len F.few;have Y:=F.co.few;have ne:fD (spm m) Ks≠[]:=λe=>by
  have:=(L.mem a).mpr F.ha
  rw[show Ks=[] from gj.mp e]at this
  exact nM this
 refine⟨rfl,λf=>⟨P,C,a,Ks,m,h,rfl,rfl,⟨F,L⟩,λfs nd u=>?_⟩⟩;have U:fs.length<=C.length+1:=c_len nd λk B=>(u k).mp B;refine⟨At (by rw[Bq];exact lin [C.length,fs.length] [] (.b V1 AG) [.c V0 K64,.b V1 (.A V0 K1)] rfl Y U),?_⟩
 rw[fD_sp];refine sortW.spots nd F.co.up u Y ?_;refine A7 (r:=C) (g:=sp) rfl (TsJ P C Ks m f) (λd m' τ j=>?_) (λd k r m' τ j C' hC=>?_) (d:=[]) (.mk _ _ [] _ rfl rfl)
 .induction j using TsJ.casesOn with
  |mk x2 x3 L' s5 y e =>
   rw[aL]at y;clear hz F Y u U;subst y;subst e;exact⟨rfl,hK⟩
 .induction j using TsJ.casesOn with
  |mk x2 x3 L' s5 y e =>
   have O:(d++[k])++r=C:=by rw[aM];exact y
   have hl:L'.length<=big:=At (by
    have h1:=b5 (tuB P m) d;have h2:=DD y;rw[e,an];exact lin [C.length,(e9 (tuB P m) d).length,d.length] [] (.b V1 AG) [.c V0 K64,.b V1 V2,.c V2 V0] rfl Y h1 h2)
   refine .inl ⟨⟨At (by rw[Bq];exact lin [Ks.length] [] (.b V0 AG) [.b V0 K36] rfl lK),ne,G8 L.nd λk B=>by obtain⟨⟨q1,q2⟩,q3,q4⟩:=F.sm k ((L.mem k).mp B);exact⟨⟨q1,lin [] [k.fst] (.g V0 K7) [.g V0 K6] rfl q2⟩,q3,lin [] [k.snd] (.g V0 K7) [.g V0 K6] rfl q4⟩⟩,λg=>?_⟩
   refine⟨g,k,P,Ks,m,h,rfl,rfl,⟨lK,L⟩,λv m' T=>⟨rfl,rfl,hl,hC _ _ (.mk _ _ _ _ O ?_)⟩,λT=>hC _ _ (.mk _ _ _ _ O ?_)⟩
   .rw[ef,bB,e,c7 (p:=tuB P m) (of_tu (v:=v) λc f=>⟨T.inP c f,T.p c f⟩)];rfl
   .have:¬tuB P m k=true:=λz=>(tu_of L.mt z).elim λv t=>T v t
    rw[ef,e,c8 (p:=tuB P m) this]
    simp
inductive QR(K:KR):List AV->LS->Prop
 |mk (t:AV)(P:List Sp)(C:List Sp)(m:Sp->Sp)(b:_)(H:List (Sp×Sp))(c0:(P.length<=36/\P.Nodup/\Cor P C/\Mt P m/\Hand P m H))(c1:K ⟨[.list ((C.filter (tuB P m)).map sp)],.new 0⟩ [.at b (.list (H.map pcA))]):QR K ([AP t P,.loc b 0]) ([.at b (.list (H.map pcA))])
noncomputable def fTof:FS:=specF λavs V K Z=>QR K avs V
theorem tof_ok:FnOk ⟨true,[],[(39,D3),(53,fCt)],[],[]⟩ EO .new 0 5 fTof:=by
 refine .specF λy V K X h=>?_;refine QR.casesOn h λt P C m b H hz U=>?_;obtain⟨d,T,Y,M,u⟩:=hz;rw[<- inn_tu]at U;exact⟨rfl,t,P,m,b,H,rfl,rfl,⟨d,T,M,u⟩,λf=>⟨t,P,C,f,BE H,m,⟨lin [P.length] [] (.b V0 FL) [.b V0 K36] rfl d,Y,λk B=>(u.mem k).mpr B⟩,λg=>⟨rfl,U⟩⟩⟩
end
section
theorem mem_tu{P C:List Sp}{m:Sp->Sp}(M:Mt P m)(B:Cor P C)(k:Sp):decide (k∈(innL P C).filter (tnB m))=tuB P m k:=by
 rw[inn_tu]
 cases e:tuB P m k with|true=>exact decide_eq_true (bE.mpr ⟨(tu_of M e).elim λv T=>T.cor B,e⟩)|false=>exact decide_eq_false λz=>by rw[(bE.mp z).2]at e;exact nT e
inductive Ask(P:List Sp)(m:Sp->Sp)(v:AV)(A:(Sp->Sp)->Prop)(B:Prop):Prop
 |yes (k:Sp)(e:v=sp k)(w:Bool)(T:Tu P m w k.1 k.2)(h:∀m',Tn P k.1 k.2 w m m'->A m'):Ask P m v A B
 |no (k:Sp)(e:v=sp k)(t:tuB P m k=false)(h:B):Ask P m v A B
 |odd (o:Odd v)(h:B):Ask P m v A B
inductive QQ(K:KR)(X:XL):List AV->LS->Prop
 |mk (t:AV)(P:List Sp)(C:List Sp)(a:_)(m:Sp->Sp)(h:Sp->Int)(b:_)(H:List (Sp×Sp))(v:_)(c0:(Flr P C a/\Mt P m/\HT P m h/\Hand P m H))(c1:Ask P m v (λm'=>K ⟨[.list ((Cx P m').map pcA)],.new 0⟩ [.at b (.list (H.map pcA))]) (X 26 [.at b (.list (H.map pcA))])):QQ K X ([AP t P,.loc b 0,v]) ([.at b (.list (H.map pcA))])
noncomputable def fTd:FS:=specF λavs V K X=>QQ K X avs V
theorem td_ok:FnOk ⟨true,[26],[(39,D3),(31,fSpot),(53,fCt),(54,fTat),(40,fLay)],[],[]⟩ D9 .new 1 5 fTd:=by
 refine .specF λy V K X h=>?_;refine QQ.casesOn h λt P C a m h b H v hz U=>?_;obtain⟨F,M,HH,u⟩:=hz;have L:Lyd P (BE H) m h:=⟨u.nd,u.mem,M,HH⟩;have hi:=λk B=>(u.mem k).mpr B;have Y:=F.few
 cases U with
 |yes k e w T U =>
  subst e;refine⟨rfl,t,P,m,b,H,rfl,rfl,⟨F.few,Bx F.up,M,u⟩,λf=>⟨sp k,rfl,rfl,.inl ⟨k,rfl,?_⟩⟩⟩;refine⟨t,P,C,f,BE H,m,⟨lin [P.length] [] (.b V0 FL) [.b V0 K36] rfl Y,F.co,hi⟩,_,InP.spots _ k,?_⟩;rw[mem_tu M F.co,of_tu T];exact⟨f,k,P,BE H,m,h,w,⟨L.len F.few,L,T⟩,λm' O=>⟨t,P,f,BE H,m',⟨F.few,hi⟩,λg=>⟨rfl,U m' O⟩⟩⟩
 |no k e z d =>
  subst e;refine⟨rfl,t,P,m,b,H,rfl,rfl,⟨F.few,Bx F.up,M,u⟩,λf=>⟨sp k,rfl,rfl,.inl ⟨k,rfl,?_⟩⟩⟩;refine⟨t,P,C,f,BE H,m,⟨lin [P.length] [] (.b V0 FL) [.b V0 K36] rfl Y,F.co,hi⟩,_,InP.spots _ k,?_⟩;rw[mem_tu M F.co,z];exact d
 |odd o d =>
  refine⟨rfl,t,P,m,b,H,rfl,rfl,⟨F.few,Bx F.up,M,u⟩,λf=>?_⟩;show ownW fSpot aa [v] _ _ BZ;exact o.own1 ⟨v,rfl,rfl,.inr ⟨o,d⟩⟩
inductive Q2(K:KR):List AV->LS->Prop
 |mk (t:AV)(P:List Sp)(C:List Sp)(a:_)(m:Sp->Sp)(h:Sp->Int)(b:_)(H:List (Sp×Sp))(v:_)(c0:(Flr P C a/\Mt P m/\HT P m h/\Hand P m H))(c1:Ask P m v (λm'=>K ⟨[.list ((Cx P m').map pcA)],.list [.new 0,.val (.bool true)]⟩ [.at b (.list (H.map pcA))]) (K ⟨[],.list [.val .none,.val (.bool true)]⟩ [.at b (.list (H.map pcA))])):Q2 K ([AP t P,.loc b 0,v]) ([.at b (.list (H.map pcA))])
noncomputable def fAsked6:FS:=specF λavs V K X=>Q2 K avs V
theorem LZ(u:List AV)(V:LS)(K:KR)(X:XL)(h:fAsked6.spec u V K X):∃rs,tryW ⟨true,[26,18],[(56,fTd)],[],[]⟩ ⟨false,exs,[(79,Lz 26 7)],[],[]⟩ Gq (.list [.mu 4 (.call (.g 56) [.v 0,.v 1,.v 2]),.bool true]) 18 3 [.ret (.list [.none,.call (.g 79) [.v 3,.int 7]])] rs 1 4 u V K:=by
 refine Q2.casesOn h λt P C a m h b H v G U=>?_
 cases U with
 |yes k e w T U =>
  subst e;exact⟨.list [.new,.val],rfl,t,P,C,a,m,h,b,H,_,G,.yes k rfl w T λm' d c=>⟨rfl,U m' d⟩⟩
 |no k e z U =>
  subst e;exact⟨.list [.val,.val],rfl,t,P,C,a,m,h,b,H,_,G,.no k rfl z ⟨rfl,U⟩⟩
 |odd o U =>
  refine⟨.list [.val,.val],rfl,?_⟩;have O:AF [AP t P,.loc b 0,v]=[0]:=congrArg (λl=>0::l) o.ix.1;have y:A1 [AP t P,.loc b 0,v] 0=[AP t P,.loc b 0,v]:=congrArg (λl=>AP t P::.loc b 0::l) (o.ix.2 1);show (match Ez (AF [AP t P,.loc b 0,v])with
   |true=>fTd.spec (A1 [AP t P,.loc b 0,v] 0) ((AF [AP t P,.loc b 0,v]).map (slot _)) (λr V'=>Ek (some 4) r (wb _ (AF [AP t P,.loc b 0,v]) V') _) (λc V'=>_)
   |false=>False)
  rw[O,y];exact⟨t,P,C,a,m,h,b,H,v,G,.odd o ⟨rfl,U⟩⟩
end
section
theorem hup_at{x y:Int}{v:Bool}{h:Sp->Int}:(h (x,y) - hup x y v h (x,y)).natAbs=4:=by
 have e:hup x y v h (x,y)=h (x,y)+(hq v * sg (x,y - 1) - hq (!v) * sg (x,y - 1)):=if_pos rfl;rw[e]
 rcases sg_cases (x,y - 1)with s|s<;>rw[s]<;>cases v<;>simp only[hq,Bool.not_false,gO]<;>omega
theorem K9{x y:Int}{v:Bool}{h:Sp->Int}{k:Sp}(n:k≠(x,y)):hup x y v h k=h k:=if_neg n
theorem Flr.noT{P C:List Sp}{a:Sp}(F:Flr P C a){m:Sp->Sp}{v:Bool}{x y:Int}(T:Tu P m v x y):a≠(x,y):=λe=>by
 refine X1p F.ne λU u=>?_;have Y:=(T (x - 1,y - 1) ⟨.inl rfl,.inl rfl⟩).1;have up:=F.up;rw[u]at Y up
 rcases ax.mp Y with z|z
 .rw[e]at z
  have:x - 1=x:=congrArg dU z
  exact lin [] [x] .no [.H (-1) (.S V0 K1) V0] rfl this
 .have:=(d9.mp up).1 _ z
  rw[e]at this
  rcases this with q|⟨q,_⟩<;>dsimp only at q<;>omega
theorem EG{k:Sp}{p:Sp->Bool}:∀{fs:List Sp},fs.Nodup->k∈fs->(∀c∈fs,p c=decide (c=k))->fs.filter p=[k]
 |[],_,hk,_=>by exact nM hk
 |x::r,nd,hk,hp=>by
  refine Ao (bJ.mp nd) λY U=>?_;have u:=hp x (.head _)
  by_cases e:x=k
  .rw[decide_eq_true e]at u
   rw[c7 u,e,List.filter_eq_nil_iff.mpr λc d=>?_];rw[hp c (.tail _ d),decide_eq_false λz=>Y (by rw[e,<- z];exact d)];decide
  .rw[decide_eq_false e]at u
   rw[c8 (by rw[u];decide)]
   exact EG U ((ax.mp hk).resolve_left λz=>e z.symm) λc d=>hp c (.tail _ d)
inductive Q5(K:KR):List AV->LS->Prop
 |mk (P:List Sp)(C:List Sp)(a:_)(Ks:List Sp)(m:Sp->Sp)(m':Sp->Sp)(h:Sp->Int)(v:_)(k:_)(c0:(Flr P C a/\Lyd P Ks m h/\Tn P k.1 k.2 v m m'))(c1:K ⟨[],.val (.bool true)⟩ []):Q5 K ([.dict (fD (spm m) Ks),.dict (fD (spm m') Ks),sp k]) ([])
noncomputable def Ij:FS:=specF λavs V K Z=>Q5 K avs V
theorem Jx:FnOk ⟨true,[],[(105,Fu)],[],[]⟩ ER .val 4 0 Ij:=by
 refine .specF λavs V K X h=>?_;refine Q5.casesOn h λP C a Ks m m' h v k hz hK=>?_;refine Bl hz λF L T=>?_;have tu:Tu P m v k.1 k.2:=λc f=>⟨T.inP c f,T.p c f⟩;have u:hup k.1 k.2 v h a=h a:=K9 (F.noT tu);have Y:k∈C:=tu.cor F.co;have lC:=F.co.few;refine⟨rfl,P,C,a,Ks,m,h,rfl,rfl,⟨F,L⟩,λfs y B=>?_⟩;refine⟨P,C,a,Ks,m',hup k.1 k.2 v h,rfl,rfl,⟨F,T.lyd L⟩,λgs U O=>?_⟩;have lf:fs.length<=C.length+1:=c_len y λk hk=>(B k).mp hk;refine⟨At (by rw[an,Bq];exact lin [C.length,fs.length] [] (.b V1 AG) [.c V0 K64,.b V1 (.A V0 K1)] rfl lC lf),?_⟩
 refine B3 (r:=fs) (g:=sp) (f:=sp) (P:=λc=>!(h c - h a == hup k.1 k.2 v h c - hup k.1 k.2 v h a)) (fD_sp _ _) (λc d ys C' h1 h2=>?_) ?_
 .exact⟨_,Cw d,_,Cw ((O c).mpr ((B c).mp d)),ifB h1 h2⟩
 .have d4:(h k - hup k.1 k.2 v h k).natAbs=4:=hup_at
  rw[EG y ((B k).mpr Y) λc d=>by
   rw[u]
   by_cases e:c=k
   .rw[decide_eq_true e,e,beq_eq_false_iff_ne.mpr (λz=>by omega)];rfl
   .rw[decide_eq_false e,K9 e,beq_self_eq_true];rfl]
  refine⟨true,(Nice.spots [k]).eq (by decide),_,Cw ((B k).mpr Y),_,Cw ((O k).mpr Y),?_⟩
  have:(((h k - h a - (hup k.1 k.2 v h k - hup k.1 k.2 v h a)).natAbs:Int) == 4)=true:=by
   rw[u,show h k - h a - (hup k.1 k.2 v h k - h a)=h k - hup k.1 k.2 v h k by exact ai (lin [] [h k,h a,hup k.fst k.snd v h k] (.f (.S (.S V0 V1) (.S V2 V1)) (.S V0 V2)) [] rfl) (lin [] [h k,hup k.fst k.snd v h k,h a] (.f (.S V0 V1) (.S (.S V0 V2) (.S V1 V2))) [] rfl),d4];rfl
  show K ⟨[],.val (.bool (((h k - h a - (hup k.1 k.2 v h k - hup k.1 k.2 v h a)).natAbs:Int) == 4))⟩ [];rw[this];exact hK
end
section
theorem Nice.pc(q:Ag×Ag):Nice 2 (pcA q):=Nice.tup λx u=>by
 rcases ax.mp u with rfl|u
 .exact Nice.sp _
 .rw[aR.mp u];exact Nice.sp _
theorem Nice.pcs(l:List (Ag×Ag)):Nice 3 (.list (l.map pcA)):=Nice.list λx u=>by
 refine X1pp (aW.mp u) λq Z z=>?_;clear u;subst z;exact Nice.pc q
theorem Tn.tu{P:List Sp}{x y:Int}{v:Bool}{m m':Sp->Sp}(T:Tn P x y v m m'):Tu P m v x y:=λc f=>⟨T.inP c f,T.p c f⟩
theorem Tn.tu'{P:List Sp}{x y:Int}{v:Bool}{m m':Sp->Sp}(T:Tn P x y v m m'):Tu P m' (!v) x y:=λc f=>⟨T.inP c f,T.p' c f⟩
theorem Tu.one{P:List Sp}{x y:Int}{v w:Bool}{m:Sp->Sp}(T:Tu P m v x y)(U:Tu P m w x y):v=w:=by
 have f:Fo x y (x - 1,y - 1):=⟨.inl rfl,.inl rfl⟩;have e:=(T _ f).2.symm.trans (U _ f).2
 cases v<;>cases w
 .rfl
 .rw[BR,BQ]at e
  have:x=x - 1:=congrArg dU e
  omega
 .rw[BR,BQ]at e
  have:x - 1=x:=congrArg dU e
  omega
 .rfl
theorem Tn.one{P:List Sp}{x y:Int}{v w:Bool}{m m' B:Sp->Sp}(T:Tn P x y v m m')(U:Tn P x y w m B):B=m':=by
 obtain rfl:=T.tu.one U.tu
 funext c
 by_cases f:Fo x y c
 .rw[T.p' c f,U.p' c f]
 .rw[T.o c f,U.o c f]
theorem Tn.back{P:List Sp}{x y:Int}{v:Bool}{m m' B:Sp->Sp}(T:Tn P x y v m m')(U:Tn P x y (!v) m' B):B=m:=by
 funext c
 by_cases f:Fo x y c
 .rw[U.p' c f,T.p c f,Bool.not_not]
 .rw[U.o c f,T.o c f]
theorem Odd.own3{f:List AV->LS->KR->XL->Prop}{mu:Option Nat}{fs:List (Str×AV)}{b:Addr}{i:Nat}{v:AV}{V:LS}{K:KV}{X:XL}(o:Odd v)(h:f [.inst fs,.loc b 0,v] [slot V i] (λr V'=>Ek mu r (wb V [i] V') K) (λc V'=>X c (wb V [i] V'))):ownW (specF f) mu [.inst fs,.loc b i,v] V K X:=by
 have u:AF [.inst fs,.loc b i,v]=[i]:=congrArg (λl=>i::l) o.ix.1;have T:A1 [.inst fs,.loc b i,v] 0=[.inst fs,.loc b 0,v]:=congrArg (λl=>AV.inst fs::.loc b 0::l) (o.ix.2 1);show (match Ez (AF [.inst fs,.loc b i,v])with
  |true=>f (A1 [.inst fs,.loc b i,v] 0) ((AF [.inst fs,.loc b i,v]).map (slot V)) (λr V'=>Ek mu r (wb V (AF [.inst fs,.loc b i,v]) V') K) (λc V'=>X c (wb V (AF [.inst fs,.loc b i,v]) V'))
  |false=>False)
 rw[u,T];exact h
noncomputable abbrev E7:Tab:=⟨true,[],[(88,Ig),(87,fDrawn),(72,fAt),(29,fFloor),(92,Lw),(109,fTurns),(55,fTof),(101,fAsked6),(86,fTurn),(90,fTold),(110,Ij),(56,fTd)],[],[]⟩
structure L6(l:List Int)(G:Gr)(C Ks:List Sp)(a:Sp)(m:Sp->Sp)(h:Sp->Int)(H:List (Sp×Sp)):Prop where
 hl:l.length<=1000
 F:Flr (Ae G) C a
 L:Lyd (Ae G) Ks m h
 g:Hand (Ae G) m H
noncomputable def l6M(l:List Int)(G:Gr)(D:List (Ag×AV))(H:List (Sp×Sp))(a4:Addr)(T:List Sp)(x8 x9 x10 x11 x12 x13:Option AV):M:=[some (.nums l),some (.list (AA G)),some (.dict D),some (AP (.list (AA G)) (Ae G)),some (.list (H.map pcA)),some (.loc a4 4),some (.list (T.map sp)),some (.list (T.map sp)),x8,x9,x10,x11,x12,x13]
noncomputable def l6S(s4 s5 s6 s7 s8 s9:Slot):LS:=[.no,.no,.no,.no,s4,s5,s6,s7,s8,s9]
section
variable {l:List Int}{G:Gr}{C Ks:List Sp}{a:Sp}{m:Sp->Sp}{h:Sp->Int}{H:List (Sp×Sp)}{a4 a9:Addr}{s5 s6 s7 s8 s9:Slot}{X:XL}{KK:KS}{n:Nat}{k:Sp}
theorem L6.lH(W:L6 l G C Ks a m h H):(H.map pcA).length<=big:=At (by rw[an];have:=W.g.len W.F.few;exact lin [H.length] [] (.b V0 AG) [.b V0 K18] rfl this)
theorem L6.tof(W:L6 l G C Ks a m h H):(Ae G).length<=36/\(Ae G).Nodup/\Cor (Ae G) C/\Mt (Ae G) m/\Hand (Ae G) m H:=⟨W.F.few,Bx W.F.up,W.F.co,W.L.mt,W.g⟩
theorem law6_end{Y:Sp->Sp}{v:Bool}(W:L6 l G C Ks a m h H)(T:Tn (Ae G) k.1 k.2 v m Y)(U:∀m V,KK (.ret (.bool true)) m V) :
  wpSs E7 (c_law6.body.drop 19) X (l6M l G (fD (spm m) Ks) H a4 (C.filter (tuB (Ae G) m)) (some (.list ((C.filter (tuB (Ae G) m)).map sp))) (some (.int n)) (some (sp k)) (some (.list [.loc a9 9,.bool true])) (some (.dict (fD (spm Y) Ks))) aa) (l6S (.at a4 (.list (H.map pcA))) s5 s6 .no s8 (.at a9 (.list ((Cx (Ae G) Y).map pcA)))) KK:=by
 have y:=T.lyd W.L;have O:(Ae G).length<=36/\(Ae G).Pairwise lt2/\Lyd (Ae G) Ks Y (hup k.1 k.2 v h):=⟨W.F.few,W.F.up,y⟩;refine⟨rfl,W.lH,_,rfl,rfl,_,rfl,Ae G,Ks,Y,_,rfl,rfl,O,rfl,true,(Nice.pcs _).eq (by decide),?_⟩
 refine⟨Ae G,C,a,Ks,m,Y,h,v,k,⟨W.F,W.L,T⟩,?_⟩;refine⟨_,rfl,.list (AA G),Ae G,C,a,Y,hup k.1 k.2 v h,a9,Cx (Ae G) Y,sp k,⟨W.F,y.mt,y.ht,y.mt.lay (Bx W.F.up)⟩,.yes k rfl (!v) T.tu' λd u=>?_⟩;obtain rfl:=T.back u;exact⟨Ae G,Ks,d,h,rfl,rfl,⟨W.F.few,W.F.up,W.L⟩,true,(Nice.pcs _).eq (by decide),_,rfl,Ae G,Ks,Y,_,rfl,rfl,O,rfl,true,(Nice.pcs _).eq (by decide),true,(Nice.spots _).eq (by decide),U _ _⟩
theorem KL{B:Sp->Sp}{w:Bool}(W:L6 l G C Ks a m h H)(T:Tn (Ae G) k.1 k.2 w m B)(hK:∀m V,KK (.ret (.bool true)) m V) :
  wpSs E7 (c_law6.body.drop 17) X (l6M l G (fD (spm m) Ks) H a4 (C.filter (tuB (Ae G) m)) (some (.list ((C.filter (tuB (Ae G) m)).map sp))) (some (.int n)) (some (sp k)) (some (.list [.loc a9 9,.bool true])) aa aa) (l6S (.at a4 (.list (H.map pcA))) s5 s6 s7 s8 (.at a9 (.list ((Cx (Ae G) B).map pcA)))) KK:=by
 have O:=W.L.len W.F.few;have ne:fD (spm m) Ks≠[]:=λe=>by
  have:=(W.L.mem a).mpr W.F.ha
  rw[show Ks=[] from gj.mp e]at this
  exact nM this
 refine .inl ⟨⟨At (by rw[Bq];exact lin [Ks.length] [] (.b V0 AG) [.b V0 K36] rfl O),ne,G8 W.L.nd λk hk=>by obtain⟨⟨d,u⟩,Y,y⟩:=W.F.sm k ((W.L.mem k).mp hk);exact⟨⟨d,lin [] [k.fst] (.g V0 K7) [.g V0 K6] rfl u⟩,Y,lin [] [k.snd] (.g V0 K7) [.g V0 K6] rfl y⟩⟩,λa7=>?_⟩
 refine⟨a7,k,Ae G,Ks,m,h,rfl,rfl,⟨O,W.L⟩,λv m3 U=>?_,λz=>(z w T.tu).elim⟩;obtain rfl:=T.one U;exact⟨rfl,law6_end W U hK⟩
theorem DU(W:L6 l G C Ks a m h H){B u:Option AV}{y:AV}(U:∀s6,wpSs E7 (c_law6.body.drop 16) X (l6M l G (fD (spm m) Ks) H a4 (C.filter (tuB (Ae G) m)) (some (.list ((C.filter (tuB (Ae G) m)).map sp))) B u (some (.list [y,.bool true])) aa aa) (l6S (.at a4 (.list (H.map pcA))) s5 s6 s7 s8 s9) KK) :
  wpSs E7 (c_law6.body.drop 15) X (l6M l G (fD (spm m) Ks) H a4 (C.filter (tuB (Ae G) m)) (some (.list ((C.filter (tuB (Ae G) m)).map sp))) B u (some (.list [y,.bool true])) aa aa) (l6S (.at a4 (.list (H.map pcA))) s5 s6 s7 s8 s9) KK :=
 ⟨_,rfl,rfl,true,(Nice.pcs H).eq (by decide),true,(Nice.spots _).eq (by decide),W.lH,λT=>⟨.list (AA G),Ae G,C,m,T,H,W.tof,true,(Nice.spots _).eq (by decide),U _⟩⟩
theorem law6_odd{v:AV}(W:L6 l G C Ks a m h H)(o:Odd v)(y:((n:Int).fmod 4 == 1)=true)(U:∀m V,KK (.ret (.bool true)) m V) :
  wpSs E7 (c_law6.body.drop 14) X (l6M l G (fD (spm m) Ks) H a4 (C.filter (tuB (Ae G) m)) (some (.list ((C.filter (tuB (Ae G) m)).map sp))) (some (.int n)) (some v) aa aa aa) (l6S (.at a4 (.list (H.map pcA))) s5 s6 s7 s8 s9) KK:=by
 show ownW fAsked6 (some 9) [AP (.list (AA G)) (Ae G),.loc a4 4,v] _ _ BZ;refine o.own3 ⟨.list (AA G),Ae G,C,a,m,h,a4,H,v,⟨W.F,W.L.mt,W.L.ht,W.g⟩,.odd o ?_⟩;exact DU W λs6=>ifT y ⟨_,rfl,U _ _⟩
theorem DT(W:L6 l G C Ks a m h H)(y:((n:Int).fmod 4 == 1)=false)(U:∀m V,KK (.ret (.bool true)) m V) :
  wpSs E7 (c_law6.body.drop 14) X (l6M l G (fD (spm m) Ks) H a4 (C.filter (tuB (Ae G) m)) (some (.list ((C.filter (tuB (Ae G) m)).map sp))) (some (.int n)) (some (sp k)) aa aa aa) (l6S (.at a4 (.list (H.map pcA))) s5 s6 s7 s8 s9) KK:=by
 refine⟨.list (AA G),Ae G,C,a,m,h,a4,H,sp k,⟨W.F,W.L.mt,W.L.ht,W.g⟩,?_⟩
 cases e:tuB (Ae G) m k with
 |false =>
  refine .no k rfl e ?_;refine DU W λs6=>ifF y ⟨_,InP.spots _ k,?_⟩;rw[decide_eq_false λz=>by rw[(bE.mp z).2]at e;exact nT e]
  exact⟨_,rfl,U _ _⟩
 |true =>
  refine X1p (tu_of W.L.mt e) λw T=>?_;refine .yes k rfl w T λO Y a9=>?_;refine DU W λs6=>ifF y ⟨_,InP.spots _ k,?_⟩;rw[decide_eq_true (bE.mpr ⟨T.cor W.F.co,e⟩)];exact KL W Y U
theorem odd6:∀j:Nat,j<6->∃y,([.none,.str "a",.tup [.int 1],.tup [.bool true,.int 1],.list [.int 1,.int 1],.tup [.int 1,.str "1"]]:List AV)[j]?=some y/\Odd y
 |0,_=>⟨_,rfl,.none⟩
 |1,_=>⟨_,rfl,.str _⟩
 |2,_=>⟨_,rfl,.one _⟩
 |3,_=>⟨_,rfl,.bi _ _⟩
 |4,_=>⟨_,rfl,.list _⟩
 |5,_=>⟨_,rfl,.is _ _⟩
 |j+6,h=>absurd h (lin [j] [] (.j (.A V0 K6) K6) [] rfl)
theorem Jm(W:L6 l G C Ks a m h H)(U:∀m V,KK (.ret (.bool true)) m V) :
  wpSs E7 (c_law6.body.drop 10) X (l6M l G (fD (spm m) Ks) H a4 (C.filter (tuB (Ae G) m)) (some (.list ((C.filter (tuB (Ae G) m)).map sp))) aa aa aa aa aa) (l6S (.at a4 (.list (H.map pcA))) s5 s6 s7 s8 s9) KK:=by
 refine⟨l,5,rfl,W.hl,rfl,?_⟩;refine ifB (λO=>?_) λO=>?_
 .have b:=AZ (a:=((l.getD 5 0).natAbs:Int).fdiv 4) (b:=6) (by decide)
  refine X1pp (odd6 ((((l.getD 5 0).natAbs:Int).fdiv 4).fmod 6).toNat (by omega)) λy e o=>?_
  refine⟨⟨b.1,by omega⟩,y,e,?_⟩
  refine ifF (by rw[decide_eq_false_iff_not,eq_of_beq O];decide) ?_
  exact law6_odd W o O U
 .refine ifB (λT=>?_) λT=>DT (k:=((((l.getD 5 0).natAbs:Int).fdiv 4).fmod 8,(((l.getD 5 0).natAbs:Int).fdiv 32).fmod 8)) W O U
  refine⟨_,HP _,ifB (λz=>?_) λz=>DT (k:=((((l.getD 5 0).natAbs:Int).fdiv 4).fmod 8,(((l.getD 5 0).natAbs:Int).fdiv 32).fmod 8)) W O U⟩;have Y:=W.F.co.few;have d:(C.filter (tuB (Ae G) m)).length<=C.length:=b5 _ _;have u:0<(C.filter (tuB (Ae G) m)).length:=by
   cases q:C.filter (tuB (Ae G) m)with|nil=>rw[q]at z;exact nF z|cons x r=>exact gl _
  have e:(((C.filter (tuB (Ae G) m)).map sp).length:Int)=(C.filter (tuB (Ae G) m)).length:=by rw[an]
  have b:=AZ (a:=((l.getD 5 0).natAbs:Int).fdiv 4) (b:=((C.filter (tuB (Ae G) m)).map sp).length) (lin [(e9 (tuB (Ae G) m) C).length,(List.map sp (e9 (tuB (Ae G) m) C)).length] [] (.g K0 (.c V1)) [.c K0 V0,.H (-1) (.c V1) (.c V0)] rfl u e);refine⟨At (by rw[an];exact lin [C.length,(e9 (tuB (Ae G) m) C).length] [] (.b V1 AG) [.c V0 K64,.b V1 V0] rfl Y d),by omega,⟨b.1,by omega⟩,?_⟩
  have B:((((l.getD 5 0).natAbs:Int).fdiv 4).fmod ((C.filter (tuB (Ae G) m)).map sp).length).toNat<(C.filter (tuB (Ae G) m)).length:=by omega
  refine⟨_,?_,DT (k:=(C.filter (tuB (Ae G) m))[((((l.getD 5 0).natAbs:Int).fdiv 4).fmod ((C.filter (tuB (Ae G) m)).map sp).length).toNat]) W O U⟩;rw[aT,aA B];rfl
end
inductive QF(K:KR):List AV->LS->Prop
 |mk (l:List Int)(c0:l.length<=63)(c1:K ⟨[],.val (.bool true)⟩ []):QF K ([.nums l]) ([])
noncomputable def fLaw6:FS:=specF λavs V K X=>QF K avs V
theorem law6_ok:FnOk E7 c_law6 .val 13 10 fLaw6:=by
 refine .specF λavs V K X h=>?_;refine QF.casesOn h λl B T=>?_;have B:l.length<=1000:=by exact lin [l.length] [] (.b V0 AG) [.b V0 K63] rfl B
 refine⟨rfl,l,rfl,rfl,B,λG w Ks z h0 f L0=>?_⟩;refine X1p f.flr λa F=>?_;have O:=AZ (a:=l.getD 3 0) (b:=61) (by decide)
 refine⟨l,2,rfl,B,rfl,l,3,rfl,B,rfl,Ae G,_,a,Ks,z,h0,l.getD 2 0,(l.getD 3 0).fmod 61,rfl,rfl,⟨F,L0,O.1,lin [] [(l.getD 3 0).fmod 61] (.f V0 AG) [.g V0 K61] rfl O.2⟩,λU Y d=>?_⟩;refine⟨At (CL f.g),λa8=>⟨a8,G,w,rfl,rfl,f,?_⟩⟩;refine⟨l,4,rfl,B,rfl,Ae G,Ks,U,Y,l.getD 4 0,rfl,rfl,⟨F.few,F.up,d⟩,λH1 g1=>?_⟩;have W:L6 l G _ Ks a U Y H1:=⟨B,F,d,g1⟩;have u:(((corC G w).filter (tuB (Ae G) U)).map sp).length<=big:=At (by
  have Y:=F.co.few;have y:=b5 (tuB (Ae G) U) (corC G w);rw[an];exact lin [(corC G w).length,(e9 (tuB (Ae G) U) (corC G w)).length] [] (.b V1 AG) [.c V0 K64,.b V1 V0] rfl Y y)
 refine⟨W.lH,λa4=>?_⟩;refine⟨Ae G,_,a,Ks,U,Y,⟨F,d⟩,?_⟩;refine⟨.list (AA G),Ae G,_,U,a4,H1,W.tof,?_⟩;refine⟨true,(Nice.spots _).eq (by decide),rfl,true,(Nice.pcs H1).eq (by decide),u,?_⟩
 refine⟨.list (AA G),Ae G,_,U,a4,H1,W.tof,λa5=>⟨rfl,u,?_⟩⟩;exact Jm W λZ Z=>T
end
section
noncomputable def D06:LawD:=⟨(29, "Floor")::(30, "is_whole")::(31, "is_spot")::(32, "order_of")::(34, "near_to")::(35, "spread_from")::(36, "are_rows")::(37, "cells_round")::(38, "is_piece")::(39, "partners_of")::(40, "laying_by")::(52, "is_turning")::(53, "corners_turning")::(54, "turn_at")::(55, "turns_of")::(56, "turned_at")::(72, "_law_cell_at")::(73, "_law_mixed")::(74, "_law_turned_rows")::(75, "_law_rows_by")::(85, "_law_pairs_flat")::(86, "_law_turn")::(87, "_law_drawn_pairs")::(88, "_law_floor_by")::(89, "_law_order")::(90, "_law_told")::(91, "_law_first")::(92, "_law_handed")::(104, "_law_step")::(105, "_law_numbers")::(78, "_law_marks")::(79, "_law_alone")::(109, "_law_turns")::(101, "_law_asked")::(110, "_law_changes")::[],
 [(13, "around"),(15, "has"),(16, "cells"),(18, "corners"),(19, "inner")],
 (false, "is_whole",LP,["thing"]) ::
 (false, "is_spot",c_spot,["thing"]) ::
 (false, "order_of",EP,["spot"]) ::
 (false, "near_to",c_near,["spot"]) ::
 (false, "spread_from",c_spread,["first", "some"]) ::
 (false, "are_rows",Gs,["rows"]) ::
 (true, "__init__",c_Finit,["self", "rows"]) ::
 (true, "around",Gu,["self"]) ::
 (true, "has",c_Fhas,["self", "place"]) ::
 (true, "cells",IG,["self"]) ::
 (true, "corners",EV,["self"]) ::
 (true, "inner",IF,["self"]) ::
 (false, "cells_round",C0,["corner"]) ::
 (false, "is_piece",EU,["floor", "thing"]) ::
 (false, "partners_of",CY,["floor", "pieces"]) ::
 (false, "laying_by",Ea,["floor", "partners"]) ::
 (false, "is_turning",Dr,["partners", "corner"]) ::
 (false, "corners_turning",BG,["floor", "partners"]) ::
 (false, "turn_at",Go,["partners", "corner"]) ::
 (false, "turns_of",EO,["floor", "pieces"]) ::
 (false, "turned_at",D9,["floor", "pieces", "corner"]) ::
 (false, "_law_cell_at",ES,["_law_script", "_law_k"]) ::
 (false, "_law_mixed",IB,["_law_number", "_law_k"]) ::
 (false, "_law_turned_rows",Co,["_law_rows"]) ::
 (false, "_law_rows_by",EQ,["_law_cell", "_law_more", "_law_even"]) ::
 (false, "_law_pairs_flat",CZ,["_law_rows", "_law_upright"]) ::
 (false, "_law_turn",c_lturn,["_law_pairs", "_law_corner"]) ::
 (false, "_law_drawn_pairs",Cp,["_law_pairs", "_law_number", "_law_many"]) ::
 (false, "_law_floor_by",c_lfloor_by,["_law_script"]) ::
 (false, "_law_order",IA,["_law_place"]) ::
 (false, "_law_told",LQ,["_law_pairs"]) ::
 (false, "_law_first",ID,["_law_piece"]) ::
 (false, "_law_handed",Gp,["_law_pairs", "_law_number"]) ::
 (false, "_law_step",c_lstep,["_law_pairs", "_law_corner", "_law_way"]) ::
 (false, "_law_numbers",c_lnumbers,["_law_pairs"]) ::
 (false, "_law_marks",IC,["_law_error"]) ::
 (false, "_law_alone",IE,["_law_error", "_law_place"]) ::
 (false, "_law_turns",Iz,["_law_pairs"]) ::
 (false, "_law_asked",Gq,["_law_floor", "_law_pieces", "_law_corner"]) ::
 (false, "_law_changes",ER,["_law_pairs", "_law_other", "_law_corner"]) ::
 (false, "law",c_law6,["_law_script"])::[],neL⟩
theorem D06_ok:D06.Ok:=⟨by decide +kernel,by decide +kernel,λZ h=>h,by decide +kernel,by decide +kernel⟩
theorem HQ(x:AV)(p:Ag)(h:kyF x=some p):(pureF keyF).pure [x]=some (sp p):=by
 refine X1pp (AD h) λk Y h=>?_;obtain rfl:=ae h;rw[spot?_out Y];rfl
theorem U_ok{K:Frag}{ex:List Nat}(h:ex.all (WK D06 []).U=true):ex.all (WK D06 K).U=true:=h
theorem LA{K:Frag}:exs.all (WK D06 K).U=true:=U_ok (by decide +kernel)
theorem alone_at{S:Sta}(st:Em D06 S.K)(B:S.cv=cvK D06 S.K)(G:Good S (WK D06 S.K)){k:Nat}:TabOk S (WK D06 S.K) (k+2) ⟨false,exs,[(79,Lz 26 7)],[],[]⟩:=by
 have O:=D06_ok;have u:false=true->S.hx=aa:=λh=>by exact nF h
 have d:=TabOk.of (k:=k) (q:=false) (ex:=exs) G u LA (fn:=[]) (me:=[]) (ky:=[]) trivial trivial trivial;have U:=FnS.of (S:=S) O st B (i:=78) (ag (i:=35) rfl) (by decide +kernel) marks_ok d
 have z:=TabOk.of (q:=false) (ex:=exs) G u LA (fn:=[(78,Lv 26)]) (me:=[]) (ky:=[]) ⟨U,trivial⟩ trivial trivial;have y:=FnS.of (S:=S) O st B (i:=79) (ag (i:=36) rfl) (by decide +kernel) alone_ok z
 exact TabOk.of G u LA ⟨y,trivial⟩ trivial trivial
section
variable {S:Sta}
theorem law_call{l:List Int}(st:Em D06 S.K)(B:S.cv=cvK D06 S.K)(G:Good S (WK D06 S.K))(hq:S.hx=aa)(hl:l.length<=63) :
  CallT S 9 (.ref (adr (ownV S.K "law"))) [.nums l] (Au []) (OutF λr Z=>r=⟨[],.val (.bool true)⟩) (Up BZ):=by
 have O:=D06_ok;have y:true=true->S.hx=aa:=λZ=>hq;have T0:∀(k:Nat)(ex:List Nat),ex.all (WK D06 S.K).U=true->TabOk S (WK D06 S.K) k ⟨true,ex,[],[],[]⟩:=λk ex hx=>TabOk.of G y hx trivial trivial trivial;have d:([]:List Nat).all (WK D06 S.K).U=true:=rfl;have whole:=FnS.of (S:=S) O st B (i:=30) (ag (i:=0) rfl) (by decide +kernel) whole_ok (T0 0 [] d)
 have spot:=FnS.of (S:=S) O st B (i:=31) (ag (i:=1) rfl) (by decide +kernel) spot_ok (TabOk.of (k:=1) (ex:=[]) G y d ⟨whole,trivial⟩ trivial trivial)
 have ord:=FnS.of (S:=S) O st B (i:=32) (ag (i:=2) rfl) (by decide +kernel) Ex (T0 0 [] d)
 have ky1:=KyS.of (S:=S) O st B (i:=32) (ag (i:=2) rfl) (by decide +kernel) Ex HQ (T0 0 [] d)
 have lord:=FnS.of (S:=S) O st B (i:=89) (ag (i:=29) rfl) (by decide +kernel) F2 (T0 0 [] d)
 have ky2:=KyS.of (S:=S) O st B (i:=89) (ag (i:=29) rfl) (by decide +kernel) F2 HQ (T0 0 [] d)
 have ky3:=KyS.of (S:=S) O st B (i:=91) (ag (i:=31) rfl) (by decide +kernel) first_ok kyP_pure (TabOk.of (k:=1) (ex:=[]) G y d ⟨lord,trivial⟩ trivial trivial)
 have near:=FnS.of (S:=S) O st B (i:=34) (ag (i:=3) rfl) (by decide +kernel) near_ok (T0 0 [] d)
 have spread:=FnS.of (S:=S) O st B (i:=35) (ag (i:=4) rfl) (by decide +kernel) JW (TabOk.of (k:=1) (ex:=[]) G y d ⟨near,trivial⟩ trivial trivial)
 have arows:=FnS.of (S:=S) O st B (i:=36) (ag (i:=5) rfl) (by decide +kernel) arows_ok (T0 0 [28] (U_ok (by decide +kernel)))
 have around:=MeS.of (S:=S) st (n:=13) (ag (i:=7) rfl) (by decide +kernel) L5 (T0 0 [] d)
 have floor:=FnS.make (S:=S) O st B (ag (i:=6) rfl) (λZ=>rfl) rfl init_ok (TabOk.of (k:=2) (ex:=[28,19,20,21]) G y (U_ok (by decide +kernel)) ⟨arows.up (by decide),spread,trivial⟩ ⟨around.up (by decide),trivial⟩ trivial)
 have has_:=MeS.of (S:=S) st (n:=15) (ag (i:=8) rfl) (by decide +kernel) has_ok (TabOk.of (k:=2) (ex:=[]) G y d ⟨spot,trivial⟩ trivial trivial)
 have cells:=MeS.of (S:=S) st (n:=16) (ag (i:=9) rfl) (by decide +kernel) cells_ok (T0 0 [] d)
 have corners:=MeS.of (S:=S) st (n:=18) (ag (i:=10) rfl) (by decide +kernel) Ju (TabOk.of (k:=3) (ex:=[]) G y d trivial trivial ⟨ky1,trivial⟩)
 have round:=FnS.of (S:=S) O st B (i:=37) (ag (i:=12) rfl) (by decide +kernel) round_ok (T0 0 [] d)
 have inner:=MeS.of (S:=S) st (n:=19) (ag (i:=11) rfl) (by decide +kernel) inner_ok (TabOk.of (k:=4) (ex:=[]) G y d ⟨round.up (by decide),trivial⟩ ⟨corners,trivial⟩ trivial)
 have piece:=FnS.of (S:=S) O st B (i:=38) (ag (i:=13) rfl) (by decide +kernel) piece_ok (TabOk.of (k:=3) (ex:=[]) G y d ⟨near.up (by decide),trivial⟩ ⟨has_,trivial⟩ trivial)
 have Y:=FnS.of (S:=S) O st B (i:=39) (ag (i:=14) rfl) (by decide +kernel) GP (TabOk.of (k:=4) (ex:=[]) G y d ⟨piece,trivial⟩ ⟨cells.up (by decide),trivial⟩ trivial)
 have lay:=FnS.of (S:=S) O st B (i:=40) (ag (i:=15) rfl) (by decide +kernel) lay_ok (TabOk.of (k:=1) (ex:=[]) G y d ⟨ord,trivial⟩ ⟨cells,trivial⟩ trivial)
 have ist:=FnS.of (S:=S) O st B (i:=52) (ag (i:=16) rfl) (by decide +kernel) ist_ok (TabOk.of (k:=1) (ex:=[]) G y d ⟨round,trivial⟩ trivial trivial)
 have ct:=FnS.of (S:=S) O st B (i:=53) (ag (i:=17) rfl) (by decide +kernel) ct_ok (TabOk.of (k:=5) (ex:=[]) G y d ⟨ist.up (by decide),trivial⟩ ⟨inner,trivial⟩ trivial)
 have tat:=FnS.of (S:=S) O st B (i:=54) (ag (i:=18) rfl) (by decide +kernel) tat_ok (TabOk.of (k:=1) (ex:=[]) G y d ⟨round,trivial⟩ trivial trivial)
 have tof:=FnS.of (S:=S) O st B (i:=55) (ag (i:=19) rfl) (by decide +kernel) tof_ok (TabOk.of (k:=6) (ex:=[]) G y d ⟨Y.up (by decide),ct,trivial⟩ trivial trivial)
 have td:=FnS.of (S:=S) O st B (i:=56) (ag (i:=20) rfl) (by decide +kernel) td_ok (TabOk.of (k:=6) (ex:=[26]) G y (U_ok (by decide +kernel)) ⟨Y.up (by decide),spot.up (by decide),ct,tat.up (by decide),lay.up (by decide),trivial⟩ trivial trivial)
 have cat:=FnS.of (S:=S) O st B (i:=72) (ag (i:=21) rfl) (by decide +kernel) at_ok (T0 0 [] d)
 have mixed:=FnS.of (S:=S) O st B (i:=73) (ag (i:=22) rfl) (by decide +kernel) mixed_ok (T0 0 [] d)
 have turned:=FnS.of (S:=S) O st B (i:=74) (ag (i:=23) rfl) (by decide +kernel) JP (T0 0 [] d)
 have rowsby:=FnS.of (S:=S) O st B (i:=75) (ag (i:=24) rfl) (by decide +kernel) J4 (TabOk.of (k:=1) (ex:=[]) G y d ⟨mixed,trivial⟩ trivial trivial)
 have pairs:=FnS.of (S:=S) O st B (i:=85) (ag (i:=25) rfl) (by decide +kernel) pairs_ok (T0 0 [] d)
 have floorby:=FnS.of (S:=S) O st B (i:=88) (ag (i:=28) rfl) (by decide +kernel) Jr (TabOk.of (k:=2) (ex:=[]) G y d ⟨cat.up (by decide),rowsby,pairs.up (by decide),turned.up (by decide),trivial⟩ trivial trivial)
 have turn:=FnS.of (S:=S) O st B (i:=86) (ag (i:=26) rfl) (by decide +kernel) turn_ok (T0 0 [] d)
 have drawn:=FnS.of (S:=S) O st B (i:=87) (ag (i:=27) rfl) (by decide +kernel) drawn_ok (TabOk.of (k:=1) (ex:=[]) G y d ⟨mixed,turn,trivial⟩ trivial trivial)
 have told:=FnS.of (S:=S) O st B (i:=90) (ag (i:=30) rfl) (by decide +kernel) told_ok (TabOk.of (k:=4) (ex:=[]) G y d ⟨lord.up (by decide),trivial⟩ trivial ⟨ky3,trivial⟩)
 have handed:=FnS.of (S:=S) O st B (i:=92) (ag (i:=32) rfl) (by decide +kernel) Le (TabOk.of (k:=5) (ex:=[]) G y d ⟨mixed.up (by decide),told,trivial⟩ trivial trivial)
 have step:=FnS.of (S:=S) O st B (i:=104) (ag (i:=33) rfl) (by decide +kernel) step_ok (T0 0 [] d)
 have u:=FnS.of (S:=S) O st B (i:=105) (ag (i:=34) rfl) (by decide +kernel) Je (TabOk.of (k:=3) (ex:=[]) G y d ⟨step.up (by decide),trivial⟩ trivial ⟨ky2,trivial⟩)
 have turns:=FnS.of (S:=S) O st B (i:=109) (ag (i:=37) rfl) (by decide +kernel) turns_ok (TabOk.of (k:=4) (ex:=[]) G y d ⟨u,turn.up (by decide),trivial⟩ trivial ⟨ky2.up (by decide),trivial⟩)
 have asked:=FnS.try_ (S:=S) O st B (i:=101) (ag (i:=38) rfl) (by decide +kernel) LZ rfl (TabOk.of (k:=7) (ex:=[26,18]) G y (U_ok (by decide +kernel)) ⟨td,trivial⟩ trivial trivial) (λg' kk x hx=>alone_at (S:=S.grow g' kk x hx) st B G.grow) ⟨rfl,by decide,by decide⟩ (λZ=>rfl)
 have changes:=FnS.of (S:=S) O st B (i:=110) (ag (i:=39) rfl) (by decide +kernel) Jx (TabOk.of (k:=4) (ex:=[]) G y d ⟨u,trivial⟩ trivial trivial)
 have T:TabOk S (WK D06 S.K) 8 E7:=TabOk.of G y d ⟨floorby.up (by decide),drawn.up (by decide),cat.up (by decide),floor.up (by decide),handed.up (by decide),turns.up (by decide),tof.up (by decide),asked,turn.up (by decide),told.up (by decide),changes.up (by decide),td.up (by decide),trivial⟩ trivial trivial
 exact D1 (V:=[]) T (Jn st (ag (i:=40) rfl)) trivial (law6_ok.spec [.nums l] [] (λr Z=>r=⟨[],.val (.bool true)⟩) BZ ⟨l,hl,rfl⟩) λok hs z=>CD ok hs z
end
end
section
noncomputable def keep06:List Nat:=[0,2,3,4,5,6,7,8,9,10,11,13,14,15,16,17,18,19,20,21,23,24,25,27,28,29,30,31,33,34,35,36,37,38,39,40,41,42,43,44,45,46,47,48,49,50,51,52]
noncomputable abbrev p06:dz:=PySem.Challenge.pw_uf010026_06
noncomputable def q06:dz:=view PySem.Challenge.pw_uf010026_06 keep06
noncomputable def Xt06(s:af):Bool:=xlAt q06 [] s && recOk (RowW.records (OpenRow.toRowW (OpenLaw.row PySem.Challenge.rw_uf010026_06))) s
theorem opens:opening p06=plainProg p06.main.scope.names:=by kernel_rfl
theorem fence:∀s,fenceModules? p06 s=some s:=λs=>by kernel_rfl
theorem boots:∀P,absHeap (JA P) 11 {}=c6 P:=λP=>by kernel_rfl
theorem sizes:∀P,((c6 P).isNs bZ,(c6 P).objs.size,(c6 P).nsMap bZ "__annotations__")=(true,11,some (.ref 6)):=λP=>by kernel_rfl
noncomputable def Ej(w:World)(os:OsState):Option SharedT:=goT (stepT (denote treeTable) p06 w) (stepOk 11 (some (.ref 6))) 9000 ⟨JA w.params,11,{},ip [],gz,hV,os⟩ (topStub p06)
theorem ranA:∀w:World,(λos=>(Ej w os).map λr=>(staticsOk (ge p06.main.body) (c6 w.params) r.abs.heap && namesBound p06 r.abs.heap && gensDone r.abs && laidKept (c6 w.params) r.abs.heap))=λZ=>some true:=λw=>by
 unfold Ej;rw[b8,b9,cb,cq,eY]
 kernel_rfl
theorem ranB:∀w:World,(λos=>(Ej w os).map λr=>openSeen q06 [] (ge p06.main.body) Xt06 true r.abs)=λZ=>some (openGood q06 []):=λw=>by
 unfold Ej;rw[b8,b9,cb,cq,PySem.W.Fast.te4187177175401517315,eY]
 kernel_rfl
theorem ranC:∀w:World,(λos=>(Ej w os).map λr=>HO D06 (DX r.abs.heap))=λZ=>some (aP 13 true):=λw=>by
 unfold Ej;rw[b8,b9,cb,cq]
 kernel_rfl
theorem ranD:∀w:World,(λos=>(Ej w os).map λr=>(Fv D06 (DX r.abs.heap)).map (IH (DX r.abs.heap)))=λZ=>some ((Fv D06 []).map λx=>some (some (some (GI x.c.body)))):=λw=>by
 unfold Ej;rw[b8,b9,cb,cq]
 kernel_rfl
theorem ranE:∀w:World,(λos=>(Ej w os).map λr=>(Fv D06 (DX r.abs.heap)).map (Gw (DX r.abs.heap)))=λZ=>some ((Fv D06 []).map Ee):=λw=>by
 unfold Ej;rw[b8,b9,cb,cq]
 kernel_rfl
theorem DB{α β γ:Type}{o:Option α}{f:α->β}{g:α->γ}{a:β}{b:γ}(Y:o.map f=some a)(z:o.map g=some b):(o.map λr=>(f r,g r))=some (a,b):=by
 cases o with|none=>exact(Am rfl Y).elim|some x=>rw[<- ae Y,<- ae z];rfl
theorem ran:∀w:World,(λos=>(goT (stepT (denote treeTable) p06 w) (stepOk 11 (some (.ref 6))) 9000 ⟨JA w.params,11,{},ip [],gz,hV,os⟩ (topStub p06)).map λr=>seenT (c6 w.params) p06 q06 Xt06 (F6 D06).obs r.abs)=λZ=>some (true,openGood q06 [],(F6 D06).val w) :=
 λw=>funext λos=>DB (congrFun (ranA w) os) (DB (congrFun (ranB w) os) (DB (congrFun (ranC w) os) (DB (congrFun (ranD w) os) (congrFun (ranE w) os))))
noncomputable abbrev r06:OpenRow:=OpenLaw.row PySem.Challenge.rw_uf010026_06
theorem said06:PySem.Challenge.rw_uf010026_06.wellSaid=true:=by rw[PySem.W.Fast.te9446332074065402090];kernel_rfl
theorem def06:(defOf q06 r06.name).isSome=true:=by kernel_rfl
noncomputable def d06:DefRec×List (Str×Expr):=(defOf q06 r06.name).get def06
theorem fits:(chainsOk q06 && opensWell r06.prog && (frees r06.toRowW && r06.within.isEmpty))=true:=by kernel_rfl
end
section
theorem left06:LeftO r06.prog q06 [] Xt06 (F6 D06).obs (F6 D06).val 9000:=left_of (p:=p06) opens rfl fence boots sizes ran
theorem head06(call:WalkO q06 [] (PySem.W.XL q06 []) (F6 D06).says r06.toRowW d06.1 d06.2 λf vs=>PySem.call f vs):PySem.Challenge.rw_uf010026_06.Holds :=
 holds_law said06 λz=>holds_open (q:=q06) (loose:=[]) (Xt:=Xt06) (XP:=PySem.W.XL q06 []) (YP:=(F6 D06).says) (N:=9000) left06 (F6 D06).of (F6 D06).keeps (λs e=>xl_of s (aG.mp e).1) PySem.W.XL.keeps (Option.some_get def06).symm (by kernel_rfl) (by kernel_rfl)
  (λs e=>recFacts_of (aG.mp e).2) (by kernel_rfl) z fits ⟨rfl,rfl,rfl,rfl,rfl,by decide +kernel⟩ (by w_witness2) call
theorem room_caller{S:Sta}(hq:S.hx=aa):Room S (λZ=>False) 9 callerA :=
 ⟨by rw[hq];rfl,⟨[],rfl,λe O=>by cases O⟩,by decide +kernel,by decide +kernel⟩
theorem inv_start{S:Sta}{s:af}(T:S.g=s.heap)(z:S.gens=s.gens)(Y:S.drawn=s.drawn)(y:S.os=s.os):Inv S (λZ=>False) (λZ=>aa) s :=
 ⟨λb o e=>by rw[T]at e;exact e,z.symm,Y.symm,y.symm,λa d=>absurd rfl d,λa d=>absurd rfl d,λa h=>h.elim,λa o e=>by cases e⟩
theorem rep_script{cv:Nat->Value}{h:Heap}{D:Addr->Prop}{a:Addr}{vs:List Value}{ns:List Int}(d:h.IsList a vs.toArray)(O:IntsAre vs ns)(U:¬D a):Rep cv h D (.nums ns) (.ref a):=by
 obtain⟨o,e,c,n,f⟩:=d;refine .nums e c f U ?_;clear e c f U
 induction O with
 |nil=>exact⟨rfl,λi x h=>by simp at h⟩
 | @cons m t vs ns _ y =>
  refine⟨by simp[y.1],λi x h=>?_⟩
  cases i with|zero=>simp at h;subst h;exact⟨t,rfl⟩|succ i=>simp at h;simpa using y.2 i x h
end
end Mine.Internal
set_option tactic.hygienic true in
theorem PySem.Challenge.cw_uf010026_06_holds : PySem.Challenge.rw_uf010026_06.Holds :=
 Mine.Internal.head06 (by
 intro w Ak Ac mg mb G Y fa o pm cd doc dV kV ho hd' hcd hD hmg hg args vals as hpre hlay hrd hwl hlo;obtain⟨K,KX,st⟩:=Y;refine Ground.open G ?_;intro T B D TE TW;have hfa:fa=Mine.Internal.adr (Mine.Internal.ownV K "law"):=by
  have e:=mg_of KX T.g st.L.law;have e':mg "law"=some (.ref fa):=hmg;rw[e]at e';cases e';rfl
 subst hfa;clear hD hcd hd' ho hmg B D TE TW G
 wrow_args hpre hlay hrd hwl hlo
 rename_i ns _ _ _ _ _ _ _ a vs _ hL _ _ _ hI _ hlen _
 have hsm:∃o,Ac.heap.get? cL=some o:=by
  obtain⟨mm,⟨o,es,ep,e,_⟩,_⟩:=(T.seer (by decide +kernel)).mods
  exact⟨o,e⟩
 let S:Mine.Internal.Sta:=⟨PySem.Challenge.rw_uf010026_06.row.prog,w,Mine.Internal.cvK Mine.Internal.D06 K,Ac.heap,K,KX,Ac.gens,Ac.drawn,Ac.os,mg,mb,T.g,T.b,T.nolimit,hsm,aa,λx e=>by cases e⟩
 have C:=Mine.Internal.law_call (S:=S) (l:=ns) st rfl (Mine.Internal.goodD (S:=S) Mine.Internal.D06_ok st.L rfl (topRead_of T)) rfl (by omega)
 refine enter_call (dG (C (λZ=>False) callerA [.ref a] Ac (Mine.Internal.room_caller rfl) (Mine.Internal.inv_start rfl rfl rfl rfl) (.cons (Mine.Internal.rep_script hL hI λd=>d.elim (λd=>absurd rfl d) id) .nil)) λr s' z=>?_)
 cases r with
 |error e=>obtain⟨_,_,_,_,_,_,_,_,_,_,_,h⟩:=z;exact h.elim
 |ok fl =>
  cases fl with
  |ret v =>
   obtain⟨av,V',st,i,r,rt,τ,e,_,_,e'⟩:=z;subst e';subst e;obtain rfl:=r.inv;refine⟨.inl ⟨.bool true,.bool true,[],rfl,λcls=>?_,.bool true,?_,λZ=>⟨by simp,by simp⟩⟩,.of_keep i.keep,i.os,.of_eq (i.gens.trans hg)⟩
   .first|exact raisesW_false (by wrow_none_raised) cls|rfl
   .first|wrow_post|rfl
  |_=>exact z.elim)
