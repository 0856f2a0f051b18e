import PyProof.Rows.All
import PyProof.Walks
import Wide.All
import OpenK.AllK
import KE.KTryMore
import Wide.FinOn
import PyProof.StationsW
import PyProof.RangeIter
import PyProof.InstFacts
import KE.KDictList
import KE.KSortAsk
import KE.KSortTup
import KE.KDictOf
import PyProof.AttrMissHeap
import Open.FastRun
import Open.FastT9
import Open.Line
import PySem.Challenge.RW_uf010026_05
set_option Elab.async false
set_option maxRecDepth 1000000
set_option maxHeartbeats 8000000
set_option linter.all false
set_option tactic.hygienic false
set_option genSizeOf false
set_option genInjectivity false
set_option compiler.extract_closed false
set_option bootstrap.genMatcherCode false
set_option backward.match.sparseCases false
open Option renaming none->aa,map_eq_some_iff->aX,isSome_iff_exists->bj,map_some->ef,bind_eq_some_iff->fj,isSome_some->gJ,some->a0
open PySem renaming wpAny_bind->ac,Shared->ag,wpAny_pure->ai,Expr->aT,wpAny_mono->aU,tupleKind->be,wpAny_holding->bh,intKind->bJ,wpAny_dictEntries->bL,DictEntry->bT,mainGlobals->bY,wpAny_truthy_bool->cE,sysModules->cG,entryOfKey->cH,callEnvC->cP,wpAny_notOrdered_dict->cV,wpAny_call_entry->cX,Around->c6,wpAny_typeNameOfWhole_keyiter->c7,wpAny_newObj_type->c8,cellsFrom->c9,NameKind->dh,Builtin->dE,codeAny_mono->dH,wpAny_standAt->dL,wpAny_typeNameOf_keyiter->dM,Program->dN,rawInt->dP,wpAny_isInstance->dQ,constantsAlone->dR,sizeLine_eq->d0,wpAny_richCompare_same_room->eE,Stmt->eI,wpAny_field->eK,wpAny_eqBool_int->eT,wpAny_attempt->eX,wpAny_assignInOrder_more->eZ,swappedStores->e6,wpAny_dictEpoch->e8,pushCells_keeps->e9,wpAny_callSpecial?_slot->fi,wpAny_setField->fB,starEach->fE,wpAny_pyIter_list->fH,wpAny_pyIter_enum->fK,wpAny_rule->fW,pushCells->fY,wpAny_execs_nil->gm,wpAny_passesOwn->gp,importedModules->gw,isSubtype_dict_dict->gy,firstArgMember->gF,FuncData->gI,IsRangeIter->gV,PassesOwn->iq,Value->a8,Addr->bg
open Option.some renaming inj->ae,injEq->gY
open Int renaming le_antisymm->af,toNat_of_nonneg->an,self_le_toNat->aI,sub_add_cancel->aN,lt_or_gt_of_ne->aW,add_zero->bB,add_sub_cancel->bI,toNat_natCast->b7,eq_ofNat_of_zero_le->cF,zero_add->cJ,add_assoc->dq,le_max_right->dw,fmod_eq_emod_of_nonneg->dy,le_trans->dG,natCast_nonneg->d3,ofNat_le->d4,le_refl->fh,sub_zero->fR,neg_one_mul->gl,not_lt->gB,not_le->gE,lt_of_le_of_lt->gH,add_left_comm->gT,sub_self->iM
open List renaming mem_of_getElem?->ah,length_map->aj,length_append->ar,getElem?_eq_getElem->ax,mem_singleton->ay,mem_cons->az,toArray->aA,getD_eq_getElem?_getD->aD,append_nil->aF,size_toArray->aG,append_assoc->aH,mem_map->aJ,mem_append->aK,length_cons->aL,getElem?_map->aM,replicate->aP,map_map->aV,getElem?_eq_none->aZ,map_append->a9,getElem?_append_right->bo,not_mem_nil->bp,range->bq,mem_append_left->bA,mem_append_right->bF,nodup_cons->bG,length_replicate->bR,length->bW,map_congr_left->b4,map_cons->b5,pairwise_map->b6,getElem?_append_left->cq,mem_filter->cA,all_eq_true->cB,length_singleton->cD,getElem?_eq_some_iff->cL,nodup_append->cM,mem_map_of_mem->cQ,foldl_cons->cU,lookup_cons->cY,length_nil->dg,length_filter_le->dA,find?_cons->dD,any_eq_true->dW,getElem?_replicate->dX,mem_flatMap->dY,mem_filterMap->d7,forIn_cons->eh,concat_eq_append->eA,ext_getElem?->eB,pairwise_cons->fe,getElem?_cons_zero->fm,filter_cons_of_pos->fq,filter_cons_of_neg->fu,map_id->fw,mem_range->fL,nodup_nil->fO,contains_iff_mem->fV,getElem_mem->fZ,take->f9,getElem?_mapIdx->ge,getElem?_of_mem->gj,nil_append->gv,filter_append->gR,map_replicate->gS,getElem?_nil->gX,length_range->ib,getElem?_inj->ic,foldl_append->ie,flatMap_cons->ig,any_cons->ij,getElem_map->iw,length_take->iB,any_map->iF,map_nil->iJ,foldl->iL,filter_nil->iN
open Nat renaming le_trans->am,sub_add_cancel->ao,le_antisymm->aq,sub_le_iff_le_add'->au,le_refl->aB,le_of_ble_eq_true->bt,lt_or_gt_of_ne->bz,lt_or_ge->bO,eq_of_beq_eq_true->bP,ne_of_lt->bQ,beq->cr,lt_succ_of_lt->cO,zero_le->cR,lt_of_le_of_lt->cW,le_of_lt->cZ,not_lt->de,le_add_right->dv,le_of_eq->dJ,mul_le_mul->dZ,lt_of_succ_lt_succ->d8,not_lt_zero->ej,blt_eq->eH,ne_of_gt->eQ,lt_succ_self->eR,succ->fF,ble->fM,succ_ne_zero->f6,sub_le->f7,add_le_add_right->gf,blt->gU,le_of_succ_le->hU,le_succ->hV,le_succ_of_le->hW,succ_ne_self->iu,min_le_right->iv,succ_pos->iG,ble_eq->iI
open PySem.Heap renaming get?_push_of_some->aw,get?_push_size->aE,lt_size->ba,get?_update_self->bZ,size_push->cN,get?_update_other->dn,ExtBut->dr,SameBut->iE
open Bool renaming and_eq_true_iff->aO,false_ne_true->aQ,and_eq_true->bc,false_eq_true->bM,eq_false_iff->b8,or_eq_true_iff->di,or_eq_true->d9,and_eq_false_iff->fT,not_true->gd,true->a6,false->a7
open PySem.Builtin.Range renaming rangeSize->aR,small->cC,rangeFitsLong->gz
open Decidable renaming not_and_iff_or_not->aY,byContradiction->cg,em->iC
open Array renaming getD_eq_getD_getElem?->bf,getElem?_eq_some_iff->eJ,all_eq_true_iff_forall_mem->fQ,length_toList->gx,forIn_toList->gN,mk->iO
open PySem.Value renaming none->bn,ref->bK,builtin->ew,int->iz
open PySem.Value.ref renaming inj->bE
open PySem.Obj renaming mapSeq->bH,mapFields->c5,data_mapFields->d5,putName->fp,isFreed_of_fields->fS
open PySem.Heap.SameBut renaming update->bU
open PySem.NameKind renaming free->bV,cell->du
open Prod renaming ext->bX,fst->dK,snd->eu
open PySem.W.Fast renaming te10156331382660048174->b9,te11892475500146522536->cb,te14364793385576792824->ce,te6613529449190102663->cz,te5923862056798008813->ff
open PySem.Str renaming ofString->ct
open PySem.F renaming slot_dict_keyiterator_next->cu,slot_list_getattribute->dU,args_dict_keyiterator_next_1->eV,entry_dict_keyiterator_next->eY,plainAttrs_list->fo,slot_dict_iter->fJ,slot_dict_get->fU,excAttr_ValueError->gM,kt_typeCall_dict_1->gO,args_dict_init_2->il
open PyProof.Rows renaming seqObj->cw,mirror_perm->gg,get?_update_seq->gt,listUpdate_at->ik
open PySem.PyData renaming depthAll->cI,canLayAll0->dI,canLay0->eO,depth->fP,eqv->fX
open PySem.Builtin.Dict renaming samePairs->cK,dictSlotArgs->dC,updateFrom->dT,showsAll->ez,entriesForEmpty->gu,selfAndRest->im,mergeDict->iH
open Prod.mk renaming inj->cT,injEq->gc
open PySem.W renaming boot_heap->dc,kas_asc->dz,findIn->eM,cellsFrom_some->fG,kas_count->f8,kas_sort->gh,emptyDict->gA,boot_drawn->gQ,kas_place->iy,boot_toks->iA
open Classical renaming byContradiction->dB
open PySem.SeqAt renaming shaped->dF
open Ne renaming symm->dO
open PySem.Txt renaming mul->d6,contains->eS
open Min renaming min->eG
open Std.Legacy.Range renaming forIn_eq_forIn_range'->eN
open PySem.IntMulOk renaming of_left->eU
open List.cons renaming inj->e7
open Nat.succ renaming inj->fA
open PySem.Builtin.Dict_items renaming ownsTuple->gq
open ForInStep renaming yield->gr
open PySem.Calls renaming Name_function_global->gG
open PySem.Heap.UpToSlots renaming of_keeps->io
open PySem PyProof.Rows PySem.W
namespace Mine.Internal
section
theorem nM{α:Type u}{x:α}{C:Prop}(h:x∈([]:List α)):C:=nomatch h
@[elab_as_elim] theorem KI{α:Type u}{a:α}{l:List α}(x:α){G:α->Prop}(h:x∈a::l)(Y:G a)(z:x∈l->G x):G x:=(az.mp h).elim (λe=>e▸Y) z
theorem nS{α:Type u}{x:α}{C:Prop}(h:aa=a0 x):C:=nomatch h
theorem nS'{α:Type u}{x:α}{C:Prop}(h:a0 x=aa):C:=nomatch h
theorem nF{C:Prop}(h:a7=a6):C:=nomatch h
theorem nT{C:Prop}(h:a6=a7):C:=nomatch h
section
universe i j k l m n o
section
variable {p q r:Prop}{E:Sort o}{f g:E}{G:E->Prop}{H:Prop}
@[elab_as_elim] theorem X0ll{d:Sort o}(Y:d){u:d}{E1:Sort o}(w1:E1){O:E1}{G:d->E1->Prop}(h:Y=u/\w1=O)(k:G u O):G Y w1:=by obtain⟨rfl,rfl⟩:=h;exact k 
@[elab_as_elim] theorem X0llp{d:Sort o}(Y:d){u:d}{E1:Sort o}(w1:E1){O:E1}{G:d->E1->Prop}(h:Y=u/\w1=O/\r)(k:r->G u O):G Y w1:=by obtain⟨rfl,rfl,z⟩:=h;exact k z
@[elab_as_elim] theorem X0lp(W:E)(h:W=f/\q)(k:q->G f):G W:=by obtain⟨rfl,Y⟩:=h;exact k Y
end
section
variable {I:Sort i}
variable {p q r s t a b:I->Prop}{E:Sort o}{f g:I->E}{G:E->Prop}{H:Prop}
@[elab_as_elim] theorem X1l(W:E)(h:∃x,W=f x)(k:∀x,G (f x)):G W:=by obtain⟨x,rfl⟩:=h;exact k x
@[elab_as_elim] theorem X1lp(W:E)(h:∃x,W=f x/\q x)(k:∀x,q x->G (f x)):G W:=by obtain⟨x,rfl,Y⟩:=h;exact k x Y
@[elab_as_elim] theorem X1lpppppp(W:E)(h:∃x,W=f x/\q x/\r x/\s x/\t x/\a x/\b x)(k:∀x,q x->r x->s x->t x->a x->b x->G (f x)):G W:=by obtain⟨x,rfl,u,z,Y,y,T,O⟩:=h;exact k x u z Y y T O
theorem X1p(h:∃x,p x)(k:∀x,p x->H):H:=by obtain⟨x,h0⟩:=h;exact k x h0
@[elab_as_elim] theorem X1pl(W:E)(h:∃x,p x/\W=f x)(k:∀x,p x->G (f x)):G W:=by obtain⟨x,h0,rfl⟩:=h;exact k x h0
theorem X1pp(h:∃x,p x/\q x)(k:∀x,p x->q x->H):H:=by obtain⟨x,h0,Y⟩:=h;exact k x h0 Y
theorem X1ppp(h:∃x,p x/\q x/\r x)(k:∀x,p x->q x->r x->H):H:=by obtain⟨x,h0,Y,z⟩:=h;exact k x h0 Y z
theorem X1pppp(h:∃x,p x/\q x/\r x/\s x)(k:∀x,p x->q x->r x->s x->H):H:=by obtain⟨x,h0,U,z,Y⟩:=h;exact k x h0 U z Y
theorem X1ppppp(h:∃x,p x/\q x/\r x/\s x/\t x)(k:∀x,p x->q x->r x->s x->t x->H):H:=by obtain⟨x,h0,O,z,Y,y⟩:=h;exact k x h0 O z Y y
theorem X1pppppp(h:∃x,p x/\q x/\r x/\s x/\t x/\a x)(k:∀x,p x->q x->r x->s x->t x->a x->H):H:=by obtain⟨x,h0,O,z,Y,y,T⟩:=h;exact k x h0 O z Y y T
theorem X1ppppppp(h:∃x,p x/\q x/\r x/\s x/\t x/\a x/\b x)(k:∀x,p x->q x->r x->s x->t x->a x->b x->H):H:=by obtain⟨x,h0,u,z,Y,y,T,O⟩:=h;exact k x h0 u z Y y T O
@[elab_as_elim] theorem X1pr(W:E)(h:∃x,p x/\f x=W)(k:∀x,p x->G (f x)):G W:=by obtain⟨x,h0,rfl⟩:=h;exact k x h0
end
section
variable {I:Sort i}{J:Sort j}
variable {p q r s t a:I->J->Prop}{E:Sort o}{f g:I->J->E}{G:E->Prop}{H:Prop}
@[elab_as_elim] theorem X2l(W:E)(h:∃x y,W=f x y)(k:∀x y,G (f x y)):G W:=by obtain⟨x,y,rfl⟩:=h;exact k x y
@[elab_as_elim] theorem X2llp{d:Sort o}(Y:d){u:I->J->d}{E1:Sort o}(w1:E1){O:I->J->E1}{G:d->E1->Prop}(h:∃x y,Y=u x y/\w1=O x y/\r x y)(k:∀x y,r x y->G (u x y) (O x y)):G Y w1:=by obtain⟨x,y,rfl,rfl,z⟩:=h;exact k x y z
@[elab_as_elim] theorem X2lp(W:E)(h:∃x y,W=f x y/\q x y)(k:∀x y,q x y->G (f x y)):G W:=by obtain⟨x,y,rfl,Y⟩:=h;exact k x y Y
@[elab_as_elim] theorem X2lpp(W:E)(h:∃x y,W=f x y/\q x y/\r x y)(k:∀x y,q x y->r x y->G (f x y)):G W:=by obtain⟨x,y,rfl,Y,z⟩:=h;exact k x y Y z
@[elab_as_elim] theorem X2lppp(W:E)(h:∃x y,W=f x y/\q x y/\r x y/\s x y)(k:∀x y,q x y->r x y->s x y->G (f x y)):G W:=by obtain⟨x,y,rfl,O,z,Y⟩:=h;exact k x y O z Y
@[elab_as_elim] theorem X2lppppp(W:E)(h:∃x y,W=f x y/\q x y/\r x y/\s x y/\t x y/\a x y)(k:∀x y,q x y->r x y->s x y->t x y->a x y->G (f x y)):G W:=by obtain⟨x,y,rfl,u,U,Y,z,T⟩:=h;exact k x y u U Y z T
theorem X2p(h:∃x y,p x y)(k:∀x y,p x y->H):H:=by obtain⟨x,y,h0⟩:=h;exact k x y h0
theorem X2pp(h:∃x y,p x y/\q x y)(k:∀x y,p x y->q x y->H):H:=by obtain⟨x,y,h0,Y⟩:=h;exact k x y h0 Y
theorem X2ppp(h:∃x y,p x y/\q x y/\r x y)(k:∀x y,p x y->q x y->r x y->H):H:=by obtain⟨x,y,h0,Y,z⟩:=h;exact k x y h0 Y z
theorem X2pppp(h:∃x y,p x y/\q x y/\r x y/\s x y)(k:∀x y,p x y->q x y->r x y->s x y->H):H:=by obtain⟨x,y,h0,O,z,Y⟩:=h;exact k x y h0 O z Y
theorem X2ppppp(h:∃x y,p x y/\q x y/\r x y/\s x y/\t x y)(k:∀x y,p x y->q x y->r x y->s x y->t x y->H):H:=by obtain⟨x,y,h0,T,z,Y,O⟩:=h;exact k x y h0 T z Y O
end
section
variable {I:Sort i}{J:Sort j}{K:Sort k}
variable {p q r s t a:I->J->K->Prop}{E:Sort o}{f g:I->J->K->E}{G:E->Prop}{H:Prop}
@[elab_as_elim] theorem X3l(W:E)(h:∃x y z,W=f x y z)(k:∀x y z,G (f x y z)):G W:=by obtain⟨x,y,z,rfl⟩:=h;exact k x y z
@[elab_as_elim] theorem X3lp(W:E)(h:∃x y z,W=f x y z/\q x y z)(k:∀x y z,q x y z->G (f x y z)):G W:=by obtain⟨x,y,z,rfl,Y⟩:=h;exact k x y z Y
@[elab_as_elim] theorem X3lpp(W:E)(h:∃x y z,W=f x y z/\q x y z/\r x y z)(k:∀x y z,q x y z->r x y z->G (f x y z)):G W:=by obtain⟨x,y,z,rfl,Y,d⟩:=h;exact k x y z Y d
@[elab_as_elim] theorem X3lppp(W:E)(h:∃x y z,W=f x y z/\q x y z/\r x y z/\s x y z)(k:∀x y z,q x y z->r x y z->s x y z->G (f x y z)):G W:=by obtain⟨x,y,z,rfl,O,T,Y⟩:=h;exact k x y z O T Y
@[elab_as_elim] theorem X3lpppp(W:E)(h:∃x y z,W=f x y z/\q x y z/\r x y z/\s x y z/\t x y z)(k:∀x y z,q x y z->r x y z->s x y z->t x y z->G (f x y z)):G W:=by obtain⟨x,y,z,rfl,u,U,Y,B⟩:=h;exact k x y z u U Y B
@[elab_as_elim] theorem X3lppppp(W:E)(h:∃x y z,W=f x y z/\q x y z/\r x y z/\s x y z/\t x y z/\a x y z)(k:∀x y z,q x y z->r x y z->s x y z->t x y z->a x y z->G (f x y z)):G W:=by obtain⟨x,y,z,rfl,u,O,Y,d,T⟩:=h;exact k x y z u O Y d T
theorem X3pp(h:∃x y z,p x y z/\q x y z)(k:∀x y z,p x y z->q x y z->H):H:=by obtain⟨x,y,z,h0,Y⟩:=h;exact k x y z h0 Y
theorem X3ppp(h:∃x y z,p x y z/\q x y z/\r x y z)(k:∀x y z,p x y z->q x y z->r x y z->H):H:=by obtain⟨x,y,z,h0,Y,d⟩:=h;exact k x y z h0 Y d
theorem X3pppp(h:∃x y z,p x y z/\q x y z/\r x y z/\s x y z)(k:∀x y z,p x y z->q x y z->r x y z->s x y z->H):H:=by obtain⟨x,y,z,h0,O,T,Y⟩:=h;exact k x y z h0 O T Y
theorem X3ppppp(h:∃x y z,p x y z/\q x y z/\r x y z/\s x y z/\t x y z)(k:∀x y z,p x y z->q x y z->r x y z->s x y z->t x y z->H):H:=by obtain⟨x,y,z,h0,u,U,Y,B⟩:=h;exact k x y z h0 u U Y B
theorem X3pppppp(h:∃x y z,p x y z/\q x y z/\r x y z/\s x y z/\t x y z/\a x y z)(k:∀x y z,p x y z->q x y z->r x y z->s x y z->t x y z->a x y z->H):H:=by obtain⟨x,y,z,h0,u,O,Y,d,T⟩:=h;exact k x y z h0 u O Y d T
end
section
variable {I:Sort i}{J:Sort j}{K:Sort k}{L:Sort l}
variable {p q r s t a:I->J->K->L->Prop}{E:Sort o}{f g:I->J->K->L->E}{G:E->Prop}{H:Prop}
@[elab_as_elim] theorem X4l(W:E)(h:∃x y z u,W=f x y z u)(k:∀x y z u,G (f x y z u)):G W:=by obtain⟨x,y,z,u,rfl⟩:=h;exact k x y z u
@[elab_as_elim] theorem X4lpp(W:E)(h:∃x y z u,W=f x y z u/\q x y z u/\r x y z u)(k:∀x y z u,q x y z u->r x y z u->G (f x y z u)):G W:=by obtain⟨x,y,z,u,rfl,Y,U⟩:=h;exact k x y z u Y U
@[elab_as_elim] theorem X4lppp(W:E)(h:∃x y z u,W=f x y z u/\q x y z u/\r x y z u/\s x y z u)(k:∀x y z u,q x y z u->r x y z u->s x y z u->G (f x y z u)):G W:=by obtain⟨x,y,z,u,rfl,B,U,Y⟩:=h;exact k x y z u B U Y
@[elab_as_elim] theorem X4lpppp(W:E)(h:∃x y z u,W=f x y z u/\q x y z u/\r x y z u/\s x y z u/\t x y z u)(k:∀x y z u,q x y z u->r x y z u->s x y z u->t x y z u->G (f x y z u)):G W:=by obtain⟨x,y,z,u,rfl,B,T,Y,d⟩:=h;exact k x y z u B T Y d
@[elab_as_elim] theorem X4lppppp(W:E)(h:∃x y z u,W=f x y z u/\q x y z u/\r x y z u/\s x y z u/\t x y z u/\a x y z u)(k:∀x y z u,q x y z u->r x y z u->s x y z u->t x y z u->a x y z u->G (f x y z u)):G W:=by obtain⟨x,y,z,u,rfl,U,O,Y,B,T⟩:=h;exact k x y z u U O Y B T
theorem X4p(h:∃x y z u,p x y z u)(k:∀x y z u,p x y z u->H):H:=by obtain⟨x,y,z,u,h0⟩:=h;exact k x y z u h0
theorem X4pp(h:∃x y z u,p x y z u/\q x y z u)(k:∀x y z u,p x y z u->q x y z u->H):H:=by obtain⟨x,y,z,u,h0,Y⟩:=h;exact k x y z u h0 Y
theorem X4ppp(h:∃x y z u,p x y z u/\q x y z u/\r x y z u)(k:∀x y z u,p x y z u->q x y z u->r x y z u->H):H:=by obtain⟨x,y,z,u,h0,Y,U⟩:=h;exact k x y z u h0 Y U
theorem X4pppp(h:∃x y z u,p x y z u/\q x y z u/\r x y z u/\s x y z u)(k:∀x y z u,p x y z u->q x y z u->r x y z u->s x y z u->H):H:=by obtain⟨x,y,z,u,h0,B,U,Y⟩:=h;exact k x y z u h0 B U Y
end
section
variable {I:Sort i}{J:Sort j}{K:Sort k}{L:Sort l}{M:Sort m}
variable {p q r s t a:I->J->K->L->M->Prop}{E:Sort o}{f g:I->J->K->L->M->E}{G:E->Prop}{H:Prop}
@[elab_as_elim] theorem X5lp(W:E)(h:∃x y z u v,W=f x y z u v/\q x y z u v)(k:∀x y z u v,q x y z u v->G (f x y z u v)):G W:=by obtain⟨x,y,z,u,v,rfl,Y⟩:=h;exact k x y z u v Y
@[elab_as_elim] theorem X5lppp(W:E)(h:∃x y z u v,W=f x y z u v/\q x y z u v/\r x y z u v/\s x y z u v)(k:∀x y z u v,q x y z u v->r x y z u v->s x y z u v->G (f x y z u v)):G W:=by obtain⟨x,y,z,u,v,rfl,B,U,Y⟩:=h;exact k x y z u v B U Y
@[elab_as_elim] theorem X5lpppp(W:E)(h:∃x y z u v,W=f x y z u v/\q x y z u v/\r x y z u v/\s x y z u v/\t x y z u v)(k:∀x y z u v,q x y z u v->r x y z u v->s x y z u v->t x y z u v->G (f x y z u v)):G W:=by obtain⟨x,y,z,u,v,rfl,B,T,Y,d⟩:=h;exact k x y z u v B T Y d
theorem X5ppp(h:∃x y z u v,p x y z u v/\q x y z u v/\r x y z u v)(k:∀x y z u v,p x y z u v->q x y z u v->r x y z u v->H):H:=by obtain⟨x,y,z,u,v,h0,Y,U⟩:=h;exact k x y z u v h0 Y U
theorem X5pppp(h:∃x y z u v,p x y z u v/\q x y z u v/\r x y z u v/\s x y z u v)(k:∀x y z u v,p x y z u v->q x y z u v->r x y z u v->s x y z u v->H):H:=by obtain⟨x,y,z,u,v,h0,B,U,Y⟩:=h;exact k x y z u v h0 B U Y
theorem X5pppppp(h:∃x y z u v,p x y z u v/\q x y z u v/\r x y z u v/\s x y z u v/\t x y z u v/\a x y z u v)(k:∀x y z u v,p x y z u v->q x y z u v->r x y z u v->s x y z u v->t x y z u v->a x y z u v->H):H:=by obtain⟨x,y,z,u,v,h0,U,O,Y,B,T⟩:=h;exact k x y z u v h0 U O Y B T
end
section
variable {I:Sort i}{J:Sort j}{K:Sort k}{L:Sort l}{M:Sort m}{N:Sort n}
variable {p q r s t a:I->J->K->L->M->N->Prop}{E:Sort o}{f g:I->J->K->L->M->N->E}{G:E->Prop}{H:Prop}
@[elab_as_elim] theorem X6lpppp(W:E)(h:∃x y z u v w,W=f x y z u v w/\q x y z u v w/\r x y z u v w/\s x y z u v w/\t x y z u v w)(k:∀x y z u v w,q x y z u v w->r x y z u v w->s x y z u v w->t x y z u v w->G (f x y z u v w)):G W:=by obtain⟨x,y,z,u,v,w,rfl,B,T,Y,d⟩:=h;exact k x y z u v w B T Y d
theorem X6p(h:∃x y z u v w,p x y z u v w)(k:∀x y z u v w,p x y z u v w->H):H:=by obtain⟨x,y,z,u,v,w,h0⟩:=h;exact k x y z u v w h0
theorem X6ppppp(h:∃x y z u v w,p x y z u v w/\q x y z u v w/\r x y z u v w/\s x y z u v w/\t x y z u v w)(k:∀x y z u v w,p x y z u v w->q x y z u v w->r x y z u v w->s x y z u v w->t x y z u v w->H):H:=by obtain⟨x,y,z,u,v,w,h0,B,T,Y,d⟩:=h;exact k x y z u v w h0 B T Y d
theorem X6pppppp(h:∃x y z u v w,p x y z u v w/\q x y z u v w/\r x y z u v w/\s x y z u v w/\t x y z u v w/\a x y z u v w)(k:∀x y z u v w,p x y z u v w->q x y z u v w->r x y z u v w->s x y z u v w->t x y z u v w->a x y z u v w->H):H:=by obtain⟨x,y,z,u,v,w,h0,U,O,Y,B,T⟩:=h;exact k x y z u v w h0 U O Y B T
end
end
theorem An{U:Prop}{p1:Prop}{G:Prop}(h:U/\p1)(k:U->p1->G):G:=by
 obtain⟨h0,Y⟩:=h;exact k h0 Y
theorem Bo{U:Prop}{p1:Prop}{p2:Prop}{G:Prop}(h:U/\p1/\p2)(k:U->p1->p2->G):G:=by
 obtain⟨h0,Y,z⟩:=h;exact k h0 Y z
theorem B4{U:Prop}{p1:Prop}{p2:Prop}{u:Prop}{G:Prop}(h:U/\p1/\p2/\u)(k:U->p1->p2->u->G):G:=by
 obtain⟨h0,O,z,Y⟩:=h;exact k h0 O z Y
theorem GN{U:Prop}{p1:Prop}{p2:Prop}{u:Prop}{z:Prop}{T:Prop}{B:Prop}{G:Prop}(h:U/\p1/\p2/\u/\z/\T/\B)(k:U->p1->p2->u->z->T->B->G):G:=by
 obtain⟨h0,h1,h2,Y,d,y,O⟩:=h;exact k h0 h1 h2 Y d y O
set_option genCtorIdx false in
inductive La where
 |v (i:Nat)
 |k (z:Int)
 |c (a:La)
 |A (a b:La)
 |S (a b:La)
 |N (a:La)
 |M (z:Int) (a:La)
 |U (a:La) (z:Int)
noncomputable abbrev La.ctorIdx(x:La):Nat:=@La.casesOn (λ_=>Nat) x (λ_=>0) (λ_=>1) (λ_=>2) (λ_ _=>3) (λ_ _=>4) (λ_=>5) (λ_ _=>6) (λ_ _=>7)
noncomputable def gt0{α:Type}(d:α):List α->Nat->α
 |[],_=>d
 |x::_,0=>x
 |_::r,n+1=>gt0 d r n
noncomputable def La.n(ns:List Nat):La->Nat
 |.v i=>gt0 0 ns i
 |.k z=>z.toNat
 |.A a b=>a.n ns+b.n ns
 |.M z a=>z.toNat * a.n ns
 |.U a z=>a.n ns * z.toNat
 |_=>0
noncomputable def La.i(ns:List Nat)(is:List Int):La->Int
 |.v i=>gt0 0 is i
 |.k z=>z
 |.c a=>(a.n ns:Nat)
 |.A a b=>a.i ns is+b.i ns is
 |.S a b=>a.i ns is - b.i ns is
 |.N a=>-(a.i ns is)
 |.M z a=>z * a.i ns is
 |.U a z=>a.i ns is * z
structure Lp where
 k:Int
 n:List Int
 i:List Int
noncomputable def C5:List Int->List Int->Int
 |c::r,x::s=>c * x+C5 r s
 |_,_=>0
noncomputable def addL:List Int->List Int->List Int
 |[],b=>b
 |x::r,[]=>x::r
 |x::r,y::s=>(x+y)::addL r s
noncomputable def mulL(z:Int):List Int->List Int
 |[]=>[]
 |x::r=>z * x::mulL z r
noncomputable def one:Nat->List Int
 |0=>[1]
 |n+1=>0::one n
noncomputable def Jv:List Nat->List Int
 |[]=>[]
 |x::r=>(x:Int)::Jv r
noncomputable def Lp.ev(ns:List Nat)(is:List Int)(p:Lp):Int:=p.k+(C5 p.n (Jv ns)+C5 p.i is)
noncomputable def Lp.add(p q:Lp):Lp:=⟨p.k+q.k,addL p.n q.n,addL p.i q.i⟩
noncomputable def Lp.mul(z:Int)(p:Lp):Lp:=⟨z * p.k,mulL z p.n,mulL z p.i⟩
theorem Ht:∀a b l,C5 (addL a b) l=C5 a l+C5 b l
 |[],b,l=>(cJ _).symm
 |x::r,[],l=>(bB _).symm
 |x::r,y::s,[]=>rfl
 |x::r,y::s,u::l=>by
  show (x+y) * u+C5 (addL r s) l=(x * u+C5 r l)+(y * u+C5 s l);rw[Ht r s l,Int.add_mul,dq,dq,gT (y * u)]
theorem Hs(z:Int):∀a l,C5 (mulL z a) l=z * C5 a l
 |[],l=>(Int.mul_zero _).symm
 |x::r,[]=>(Int.mul_zero _).symm
 |x::r,u::l=>by
  show z * x * u+C5 (mulL z r) l=z * (x * u+C5 r l);rw[Hs z r l,Int.mul_add,Int.mul_assoc]
theorem Hr:∀i l,C5 (one i) l=gt0 0 l i
 |0,[]=>rfl
 |_+1,[]=>rfl
 |0,u::l=>by show 1 * u+0=u;rw[Int.one_mul,bB]
 |i+1,u::l=>by show 0 * u+C5 (one i) l=gt0 0 l i;rw[Hr i l,Int.zero_mul,cJ]
theorem Lh:∀l i,gt0 0 (Jv l) i=((gt0 0 l i:Nat):Int)
 |[],_=>rfl
 |_::_,0=>rfl
 |_::r,i+1=>Lh r i
theorem Lp.ev_add(ns is)(p q:Lp):Lp.ev ns is (p.add q)=p.ev ns is+q.ev ns is:=by
 show (p.k+q.k)+(C5 (addL p.n q.n) _+C5 (addL p.i q.i) _)=(p.k+(_+_))+(q.k+(_+_));rw[Ht,Ht];generalize C5 p.n (Jv ns)=a;generalize C5 p.i is=b;generalize C5 q.n (Jv ns)=c;generalize C5 q.i is=d;rw[dq,dq p.k,gT (a+b),dq a c,gT c b,dq a b]
theorem Lp.ev_mul(ns is z)(p:Lp):Lp.ev ns is (Lp.mul z p)=z * p.ev ns is:=by
 show z * p.k+(C5 (mulL z p.n) _+C5 (mulL z p.i) _)=z * (p.k+(_+_));rw[Hs,Hs,Int.mul_add,Int.mul_add]
noncomputable def La.pn:La->Lp
 |.v i=>⟨0,one i,[]⟩
 |.k z=>⟨z.toNat,[],[]⟩
 |.A a b=>a.pn.add b.pn
 |.M z a=>Lp.mul z.toNat a.pn
 |.U a z=>Lp.mul z.toNat a.pn
 |_=>⟨0,[],[]⟩
noncomputable def La.p:La->Lp
 |.v i=>⟨0,[],one i⟩
 |.k z=>⟨z,[],[]⟩
 |.c a=>a.pn
 |.A a b=>a.p.add b.p
 |.S a b=>a.p.add (Lp.mul (-1) b.p)
 |.N a=>Lp.mul (-1) a.p
 |.M z a=>Lp.mul z a.p
 |.U a z=>Lp.mul z a.p
theorem ev_k(ns is z):Lp.ev ns is ⟨z,[],[]⟩=z:=bB _
theorem La.pn_ok(ns is):∀t:La,((t.n ns:Nat):Int)=Lp.ev ns is t.pn
 |.v i=>by show _=0+(C5 (one i) _+0);rw[Hr,Lh,cJ,bB];rfl
 |.k z=>(ev_k _ _ _).symm
 |.A a b=>by show ((a.n ns+b.n ns:Nat):Int)=Lp.ev ns is (a.pn.add b.pn);rw[Lp.ev_add,<- pn_ok ns is a,<- pn_ok ns is b];rfl
 |.M z a=>by show ((z.toNat * a.n ns:Nat):Int)=Lp.ev ns is (Lp.mul z.toNat a.pn);rw[Lp.ev_mul,<- pn_ok ns is a];rfl
 |.U a z=>by show ((a.n ns * z.toNat:Nat):Int)=Lp.ev ns is (Lp.mul z.toNat a.pn);rw[Lp.ev_mul,<- pn_ok ns is a,Nat.mul_comm];rfl
 |.c _|.S _ _|.N _=>rfl
theorem La.p_ok(ns is):∀t:La,t.i ns is=Lp.ev ns is t.p
 |.v i=>by show _=0+(0+C5 (one i) _);rw[Hr,cJ,cJ];rfl
 |.k z=>(ev_k _ _ _).symm
 |.c a=>a.pn_ok ns is
 |.A a b=>by show a.i ns is+b.i ns is=Lp.ev ns is (a.p.add b.p);rw[Lp.ev_add,<- p_ok ns is a,<- p_ok ns is b]
 |.S a b=>by show a.i ns is - b.i ns is=Lp.ev ns is (a.p.add (Lp.mul (-1) b.p));rw[Lp.ev_add,Lp.ev_mul,<- p_ok ns is a,<- p_ok ns is b,gl];rfl
 |.N a=>by show -(a.i ns is)=Lp.ev ns is (Lp.mul (-1) a.p);rw[Lp.ev_mul,<- p_ok ns is a,gl]
 |.M z a=>by show z * a.i ns is=Lp.ev ns is (Lp.mul z a.p);rw[Lp.ev_mul,<- p_ok ns is a]
 |.U a z=>by show a.i ns is * z=Lp.ev ns is (Lp.mul z a.p);rw[Lp.ev_mul,<- p_ok ns is a,Int.mul_comm]
set_option genCtorIdx false in
inductive Lc where
 |B (k:Nat) (a b:La)
 |C (k:Nat) (a b:La)
 |D (k:Int) (a b:La)
 |F (k:Nat) (a b:La)
 |G (k:Nat) (a b:La)
 |H (k:Int) (a b:La)
 |I (k:Nat) (a b:La)
 |J (k:Nat) (a b:La)
 |K (k:Nat) (a b:La)
 |L (k:Nat) (a b:La)
 |no
noncomputable abbrev Lc.ctorIdx(x:Lc):Nat:=@Lc.casesOn (λ_=>Nat) x (λ_ _ _=>0) (λ_ _ _=>1) (λ_ _ _=>2) (λ_ _ _=>3) (λ_ _ _=>4) (λ_ _ _=>5) (λ_ _ _=>6) (λ_ _ _=>7) (λ_ _ _=>8) (λ_ _ _=>9) 10
def Lc.den(ns:List Nat)(is:List Int):Lc->Prop
 |.B _ a b=>a.n ns<=b.n ns
 |.C _ a b=>a.n ns<b.n ns
 |.D _ a b=>a.n ns=b.n ns
 |.F _ a b=>a.i ns is<=b.i ns is
 |.G _ a b=>a.i ns is<b.i ns is
 |.H _ a b=>a.i ns is=b.i ns is
 |.I _ a b=>¬(a.n ns<=b.n ns)
 |.J _ a b=>¬(a.n ns<b.n ns)
 |.K _ a b=>¬(a.i ns is<=b.i ns is)
 |.L _ a b=>¬(a.i ns is<b.i ns is)
 |.no=>False
noncomputable def Lp.df(k d:Int)(a b:Lp):Lp:=Lp.mul k (b.add (Lp.mul (-1) (a.add ⟨d,[],[]⟩)))
noncomputable def Lc.p:Lc->Lp
 |.B k a b=>Lp.df k 0 a.pn b.pn
 |.C k a b=>Lp.df k 1 a.pn b.pn
 |.D k a b=>Lp.df k 0 a.pn b.pn
 |.F k a b=>Lp.df k 0 a.p b.p
 |.G k a b=>Lp.df k 1 a.p b.p
 |.H k a b=>Lp.df k 0 a.p b.p
 |.I k a b=>Lp.df k 1 b.pn a.pn
 |.J k a b=>Lp.df k 0 b.pn a.pn
 |.K k a b=>Lp.df k 1 b.p a.p
 |.L k a b=>Lp.df k 0 b.p a.p
 |.no=>⟨0,[],[]⟩
noncomputable def Lc.nt:Lc->Lc
 |.B k a b=>.C k b a
 |.C k a b=>.B k b a
 |.F k a b=>.G k b a
 |.G k a b=>.F k b a
 |.I k a b=>.B k a b
 |.J k a b=>.C k a b
 |.K k a b=>.F k a b
 |.L k a b=>.G k a b
 |_=>.D 0 (.k 0) (.k 0)
theorem Gy{ns is}{k:Nat}{d:Int}{a b:Lp}(h:a.ev ns is+d<=b.ev ns is):0<=(Lp.df k d a b).ev ns is:=by
 unfold Lp.df;rw[Lp.ev_mul,Lp.ev_add,Lp.ev_mul,Lp.ev_add,ev_k,gl];exact Int.mul_nonneg (d3 k) (Int.sub_nonneg_of_le h)
theorem df_eq{ns is}{k:Int}{a b:Lp}(h:a.ev ns is=b.ev ns is):0<=(Lp.df k 0 a b).ev ns is:=by
 unfold Lp.df;rw[Lp.ev_mul,Lp.ev_add,Lp.ev_mul,Lp.ev_add,ev_k,gl,bB,h,Int.add_right_neg,Int.mul_zero];exact fh _
theorem Lc.ok(ns is):∀c:Lc,c.den ns is->0<=c.p.ev ns is
 |.B k a b,h=>Gy (by rw[bB,<- La.pn_ok,<- La.pn_ok];exact d4.mpr h)
 |.C k a b,h=>Gy (by rw[<- La.pn_ok,<- La.pn_ok];exact d4.mpr h)
 |.D k a b,h=>df_eq (by rw[<- La.pn_ok,<- La.pn_ok];exact congrArg _ h)
 |.F k a b,h=>Gy (by rwa [bB,<- La.p_ok,<- La.p_ok])
 |.G k a b,h=>Gy (by rwa [<- La.p_ok,<- La.p_ok])
 |.H k a b,h=>df_eq (by rwa [<- La.p_ok,<- La.p_ok])
 |.I k a b,h=>Gy (by rw[<- La.pn_ok,<- La.pn_ok];exact d4.mpr (Nat.lt_of_not_le h))
 |.J k a b,h=>Gy (by rw[bB,<- La.pn_ok,<- La.pn_ok];exact d4.mpr (Nat.le_of_not_lt h))
 |.K k a b,h=>Gy (by rw[<- La.p_ok,<- La.p_ok];exact Int.lt_of_not_ge h)
 |.L k a b,h=>Gy (by rw[bB,<- La.p_ok,<- La.p_ok];exact gB.mp h)
 |.no,h=>h.elim
theorem Lc.nt_ok(ns is):∀c:Lc,c.nt.den ns is\/c.den ns is
 |.B _ a b=>bO (b.n ns) (a.n ns)
 |.C _ a b=>(bO (a.n ns) (b.n ns)).symm
 |.F _ a b=>Int.lt_or_le (b.i ns is) (a.i ns is)
 |.G _ a b=>(Int.lt_or_le (a.i ns is) (b.i ns is)).symm
 |.I _ a b=>iC (a.n ns<=b.n ns)
 |.J _ a b=>iC (a.n ns<b.n ns)
 |.K _ a b=>iC (a.i ns is<=b.i ns is)
 |.L _ a b=>iC (a.i ns is<b.i ns is)
 |.D _ _ _|.H _ _ _|.no=>.inl rfl
noncomputable def tot:List Lc->Lp
 |[]=>⟨0,[],[]⟩
 |c::r=>c.p.add (tot r)
noncomputable def np:Int->Bool
 |.ofNat 0=>a6
 |.ofNat _=>a7
 |.negSucc _=>a6
noncomputable def nz:Int->Bool
 |.ofNat 0=>a6
 |_=>a7
noncomputable def ng:Int->Bool
 |.ofNat _=>a7
 |.negSucc _=>a6
noncomputable def Lp.bad(p:Lp):Bool:=ng p.k && (p.n.all np && p.i.all nz)
def dAll(ns:List Nat)(is:List Int)(P:Prop):List Lc->Prop
 |[]=>P
 |c::r=>c.den ns is->dAll ns is P r
theorem ands{a b:Bool}(h:(a && b)=a6):a=a6/\b=a6:=by
 cases a
 .exact nF h
 .exact⟨rfl,h⟩
theorem np_le{z:Int}(h:np z=a6):z<=0:=by
 cases z with
 |ofNat n=>cases n with|zero=>exact fh _|succ n=>exact nF h
 |negSucc n=>exact Int.negSucc_le_zero n
theorem nz_eq{z:Int}(h:nz z=a6):z=0:=by
 cases z with
 |ofNat n=>cases n with|zero=>rfl|succ n=>exact nF h
 |negSucc n=>exact nF h
theorem ng_lt{z:Int}(h:ng z=a6):z<0:=by
 cases z with|ofNat n=>exact nF h|negSucc n=>exact Int.negSucc_lt_zero n
theorem np_all:∀{l:List Int},l.all np=a6->∀ns,C5 l (Jv ns)<=0
 |[],_,_=>fh _
 |z::r,_,[]=>fh _
 |z::r,h,n::s=>by
  have h:=ands h;exact Int.add_nonpos (Int.mul_nonpos_of_nonpos_of_nonneg (np_le h.1) (d3 n)) (np_all h.2 s)
theorem nz_all:∀{l:List Int},l.all nz=a6->∀is,C5 l is=0
 |[],_,_=>rfl
 |z::r,_,[]=>rfl
 |z::r,h,n::s=>by
  have h:=ands h;show z * n+C5 r s=0;rw[nz_eq h.1,nz_all h.2 s,Int.zero_mul];rfl
theorem bad_lt{p:Lp}(h:p.bad=a6)(ns is):p.ev ns is<0:=by
 have Y:=ands h;have z:=ands Y.2;have e:=np_all z.1 ns;unfold Lp.ev;rw[nz_all z.2 is,bB];exact Int.add_neg_of_neg_of_nonpos (ng_lt Y.1) e
theorem dAll_of{ns is}{P:Prop}:∀(U:List Lc),(0<=(tot U).ev ns is->P)->dAll ns is P U
 |[],h=>h (fh _)
 |c::r,h=>λd=>dAll_of r λy=>h (by
  show 0<=(c.p.add (tot r)).ev ns is;rw[Lp.ev_add];exact Int.add_nonneg (c.ok ns is d) y)
abbrev K0:La:=.k 0
abbrev K1:La:=.k 1
abbrev Et:La:=.k 100
abbrev AD:La:=.k 1000
abbrev IH:La:=.k 10000
abbrev Aw:La:=.k 1000000
abbrev B6:La:=.k 10000000
abbrev K1114112:La:=.k 1114112
abbrev K128:La:=.k 128
abbrev K14:La:=.k 14
abbrev K15:La:=.k 15
abbrev A7:La:=.k 16777216
abbrev K17:La:=.k 17
abbrev K18:La:=.k 18
abbrev K2:La:=.k 2
abbrev K28:La:=.k 28
abbrev K29:La:=.k 29
abbrev K3:La:=.k 3
abbrev K30:La:=.k 30
abbrev K300:La:=.k 300
abbrev K36:La:=.k 36
abbrev K4:La:=.k 4
abbrev K42:La:=.k 42
abbrev K5:La:=.k 5
abbrev K6:La:=.k 6
abbrev K61:La:=.k 61
abbrev K63:La:=.k 63
abbrev K64:La:=.k 64
abbrev K7:La:=.k 7
abbrev K8:La:=.k 8
abbrev Md:La:=.k 900
abbrev BI:La:=.k 9000
abbrev C4:La:=.k 92233720368547758
abbrev Cj:La:=.k 0x8000000000000000
abbrev EB:La:=.k 9900
abbrev Km1:La:=.k (-1)
abbrev Km100:La:=.k (-100)
abbrev Bj:La:=.k (-1000000)
abbrev Cg:La:=.k (-10000000)
abbrev B5:La:=.k (-0x8000000000000000)
abbrev V0:La:=.v 0
abbrev V1:La:=.v 1
abbrev V2:La:=.v 2
abbrev V3:La:=.v 3
abbrev V4:La:=.v 4
abbrev V5:La:=.v 5
abbrev V6:La:=.v 6
abbrev Lc.b(x y:La):Lc:=.B 1 x y
abbrev Lc.c(x y:La):Lc:=.C 1 x y
abbrev Lc.d(x y:La):Lc:=.D 1 x y
abbrev Lc.f(x y:La):Lc:=.F 1 x y
abbrev Lc.g(x y:La):Lc:=.G 1 x y
abbrev Lc.h(x y:La):Lc:=.H 1 x y
abbrev Lc.i(x y:La):Lc:=.I 1 x y
abbrev Lc.j(x y:La):Lc:=.J 1 x y
abbrev Lc.k(x y:La):Lc:=.K 1 x y
abbrev Lc.l(x y:La):Lc:=.L 1 x y
theorem lin(ns:List Nat)(is:List Int)(g:Lc)(cs:List Lc)(h:((g.nt.p).add (tot cs)).bad=a6):dAll ns is (g.den ns is) cs :=
 dAll_of cs λhs=>(g.nt_ok ns is).elim (λd=>(gE.mpr (bad_lt h ns is) (by rw[Lp.ev_add];exact Int.add_nonneg (Lc.ok ns is _ d) hs)).elim) id
theorem sub_sp(a b:Nat):(b<=a/\a - b+b=a)\/(a<b/\a - b=0) :=
 (bO a b).symm.imp (λh=>⟨h,ao h⟩) λh=>⟨h,Nat.sub_eq_zero_of_le (cZ h)⟩
theorem HG(z:Int):(0<=z/\(z.toNat:Int)=z)\/(z<0/\z.toNat=0) :=
 (Int.lt_or_le z 0).symm.imp (λh=>⟨h,an h⟩) λh=>⟨h,Int.toNat_of_nonpos (Int.le_of_lt h)⟩
theorem Ku(a b:Nat):max a b=a\/max a b=b:=(Nat.le_total b a).imp Nat.max_eq_left Nat.max_eq_right
theorem Kt(a b:Nat):min a b=a\/min a b=b:=(Nat.le_total a b).imp Nat.min_eq_left Nat.min_eq_right
theorem Ct(a b:Int):max a b=a\/max a b=b:=(Int.le_total b a).imp Int.max_eq_left Int.max_eq_right
end
section
noncomputable def isF:Data->Bool
 |.fields _=>a6
 |_=>a7
theorem nDf{C:Prop}(k:isF d=a7)(h:d=.fields xs):C:=by rw[h]at k;exact nomatch k
noncomputable def Jt(B:Nat):List Nat->Nat
 |[]=>0
 |c::l=>Jt B l * B+(c+1)
theorem LK(U:c+1<B)(y:d+1<B)(h:a * B+(c+1)=b * B+(d+1)):c=d/\a=b:=by
 have u:(a * B+(c+1)) % B=c+1:=by rw[Nat.mul_comm,Nat.mul_add_mod,Nat.mod_eq_of_lt U]
 have T:(b * B+(d+1)) % B=d+1:=by rw[Nat.mul_comm,Nat.mul_add_mod,Nat.mod_eq_of_lt y]
 rw[h,T]at u;have z:d=c:=fA u;clear u;subst z;have Y:0<B:=cW (cR _) U;exact⟨rfl,Nat.eq_of_mul_eq_mul_right Y (Nat.add_right_cancel h)⟩
theorem codeB_inj:∀(a b:List Nat),(∀c∈a,c+1<B)->(∀c∈b,c+1<B)->Jt B a=Jt B b->a=b
 |[],[],_,_,_=>rfl
 |[],c::l,_,_,h=>by simp[Jt]at h
 |c::l,[],_,_,h=>by simp[Jt]at h
 |c::l,d::k,ha,hb,h=>by
  refine An (LK (ha c (.head _)) (hb d (.head _)) h) λY z=>?_;rw[Y,codeB_inj l k (λx u=>ha x (.tail _ u)) (λx u=>hb x (.tail _ u)) z]
noncomputable def codeL(l:List Nat):Nat:=Jt 2097152 l
noncomputable def Kp(l:List Nat):Bool:=l.all λc=>gU (c+1) 2097152
theorem LR(a b:List Nat)(ha:Kp a=a6)(z:Kp b=a6)(h:codeL a=codeL b):a=b :=
 codeB_inj a b (λc d=>by have:=cB.mp ha c d;exact eH.mp this) (λc d=>by have:=cB.mp z c d;exact eH.mp this) h
noncomputable def code(x:Str):Nat:=if Kp x.cps.toList then codeL x.cps.toList else 0
theorem code_inj(h:code x=code y)(u:code x≠0):x=y:=by
 unfold code at h u
 by_cases a:Kp x.cps.toList=a6
 .rw[if_pos a]at h u
  by_cases b:Kp y.cps.toList=a6
  .rw[if_pos b]at h
   have:=LR _ _ a b h
   obtain⟨⟨T⟩⟩:=x;obtain⟨⟨O⟩⟩:=y;simp only at this;rw[this]
  .rw[if_neg b]at h;exact absurd h u
 .rw[if_neg a]at u;exact absurd rfl u
noncomputable def ixN:List Nat->Nat->Option Nat
 |[],_=>none
 |d::l,c=>if cr c d then a0 0 else (ixN l c).map (·+1)
theorem Hh:∀{l:List Nat}{c i:Nat},ixN l c=a0 i->l[i]?=a0 c
 |[],_,_,h=>by exact nS h
 |d::l,c,i,h=>by
  unfold ixN at h
  by_cases e:cr c d=a6
  .rw[if_pos e]at h;obtain rfl:=ae h;simp[bP e]
  .rw[if_neg e]at h
   cases q:ixN l c with
   |none=>rw[q]at h;exact nS h
   |some j=>rw[q]at h;obtain rfl:=ae h;simpa using Hh q
noncomputable def ixS(tb:List Nat)(x:Str):Option Nat:=if code x=0 then none else ixN tb (code x)
theorem BO(d:ixS tb x=a0 i)(u:ixS tb y=a0 i):x=y:=by
 unfold ixS at d u
 by_cases a:code x=0
 .rw[if_pos a]at d;exact nS d
 .by_cases b:code y=0
  .rw[if_pos b]at u;exact nS u
  .rw[if_neg a]at d
   rw[if_neg b]at u;have Y:=Hh d;have z:=Hh u;rw[Y]at z;exact code_inj (ae z) a
noncomputable def GT:List Nat:=[488183376642157,0xcc0006400037800188000ea00074000378001a8000e80006a,514571674583146,0x368001c0000e000063,0x66000368001c4000ec00075,0x3a8001d0000d40006d,505775594143860,0x3a800190000d400065,0x66000340001bc000c400073,0x660003a800188000e600066000370001d8000de00066,0xca000660003a8001cc000e000074,483785363685492,510173602906210,488183385030766,532163833364590,479387298300002,536561907138658,0xe600070000398001cc0008c000660003b0001b4000c400057,0xe600070000398001cc0008c00073000380001c0000da00047,0x398001c0000e00006d00023800194000c400043,0xca000660003a8001cc000c400051,0x65000330001b4000e000049,0xda0006d00033000110000e00004f,0x68000378001a8000f40006200026800194000c400043,0x340001bc000d40007a00031000134000e00004f,0x740003a8001a4000d00006a00033000124000e00004f,0xde000730003b000154000e00004f,0x1d4000f2000660002a800194000c400043,0x48000278001400009a000600002a800150000a00004e,0x73000380001c0000da00047,0x330001b4000e0000690003c000180000e80006a,0x1d4000e0000710003a000180000e80006a,0x338001c0000c00007300033000194000e600070,0x1b0000e60006200032800180000e80006a,0x1c0000ea0006000039800188000cc0006f,0x1b8000e00007300033800180000ca00062000330001cc000e200074,0x3a0001e0000e00007300030000198000e600062,0x194000de00076000380001cc000c000074000368001b4000cc00064,0x33000190000cc0006a00038800180000e80006a,0x19c000e0000600003a0001cc000cc0006f0003a8001cc000c400071,0x7a00031800180000d00006f000350001e8000c40006d,0x1a0000de0006a0003d000188000da00060000328001b4000e000075,0xde0007000030000194000cc0006d,0x75000398001c0000d200074000300001cc000e000060000328001a8000c40006d,0x338001c0000c000074000328001bc000c400069,0x338001c0000c00007400033000194000d400074,0x39800198000de0007300038000190000c0000750003a0001cc000d400067,0xf400063000300001d0000ea00069000340001a8000cc00069,0xce00070000300001d0000ea00069000340001a8000cc00069,0x1d0000e600066000318001b8000ec0006f00030000198000e600062,0xe800075000348001a0000d40006600034800180000e80006a,0x1b8000e00007300033800180000d00006f000350001e8000c40006d,0xd00006f000350001bc000e6000760003a800180000e80006a,0x1a0000de0006a000378001cc000ec00075000300001d0000e600066000378001cc000e000064,0x1d4000c400060000378001cc000ec00075,0x338001c0000c000074000378001cc000ec00075,0x7500031000180000ca00066000378001cc000ec00075,0x1d4000e60006200038800188000c000074000378001cc000ec00075,0xe2000700003a800180000e80006a,0x1cc000cc0006f000398001c0000c8000600003a8001e4000cc0006f,0x1bc000cc000660003c0001d4000cc00063000300001e8000c400078,0x338001c0000c000073000330001e0000e00006d,0x338001c0000c000073000330001c4000e200076,0x6f000398001d8000ea000600003a8001e4000cc0006f,0x1a0000de0006a0003d000188000da000600003a8001d0000c40006d,0x340001bc000d40007a000310001b4000c0000750003a000188000cc0006d,0x1a0000de0006a0003d000188000da000600003a8001d0000cc0007500031000198000e600068,0x1e8000c600060000378001a0000d400074,0x1e8000c600060000368001b4000cc00064,0xea00079000330001d4000c00006f0003c0001c0000d200074,0x3d00018c000c000073000380001c0000da00067,0x750003c800198000ea0006000032800188000cc00073,0x3a800188000c00006d00036800198000c8000600003c000188000da00060,0xca000660003c8001a8000dc000600003c000188000da00060,0x3a0001e0000e00007300030000194000cc0006f000398001d8000ea000600003c000188000da00060,0x3d00018c000c0000740003c0001c0000e6000600003c000188000da00060,0x740003c0001c0000e6000600003d0001bc000c4000600003c000188000da00060,0xe80006d00036800198000c8000600003c000188000da00060,0xe80006c00039800188000dc000600003c000188000da00060,0xcc0006f000380001b4000c4000600003c000188000da00060,0xe80006800037800188000d2000600003c000188000da00060,0x330001d8000ca000600003c000188000da00060,0xd00006f000380001cc000f0000600003c000188000da00060,0x7500037800198000c6000600003c000188000da00060,0x36800188000e80007600033800198000e6000600003c000188000da00060,0x1d4000c40006d00033800180000e80007300035000188000e2000600003c000188000da00060,0x6f000398001d8000ea000600003c000188000da00060,0x3a0001cc000d40006200038800180000de00078000310001cc000ca000600003c000188000da00060,0x7a00031800180000e600070000380001b4000ce000600003c000188000da00060,0xe600066000328001cc000e0000600003c000188000da00060,0x65000368001c0000ea000600003c000188000da00060,0xea00074000398001a8000ce000600003c000188000da00060,0x194000cc0006500037800188000d2000600003c000188000da00060,0x328001a8000c40006d000300001d0000d4000600003c000188000da00060,0x75000398001c0000d200074000300001d0000d4000600003c000188000da00060,0xe800065000368001c0000d2000600003c000188000da00060,0xd2000750003b0001cc000ea000600003c000188000da00060,0x3a0001cc000cc0006f000398001c0000c8000600003c000188000da00060,0xe600066000378001bc000d4000600003c000188000da00060,0x198000ca0006a0003a000198000c6000600003c000188000da00060,0x1d4000e80006a00036800180000cc0006d000380001a4000f0000600003c000188000da00060,0xca00066000360001d0000c4000600003c000188000da00060,0x1d0000ca0006f000310001d4000e8000600003c000188000da00060,0x32800198000e80007600033800198000e6000600003c000188000da00060,0x71000330001d4000e8000600003c000188000da00060,0x3a0001cc000cc00063000370001d8000de000600003c000188000da00060,0x6600037000188000e8000600003c000188000da00060,0x32800198000d00006f000310001a4000c8000600003c000188000da00060,0x6c00032000188000c6000600003c000188000da00060,0xe80006f000398001d8000ea000600003c000188000da00060,0x3a000198000d00006f000310001a4000c8000600003c000188000da00060,0x3a8001d8000e000060000378001d8000e6000600003c000188000da00060,0xea00073000380001a4000e8000600003c000188000da00060,0x750003c800198000ea000600003c000188000da00060,0x6500031000198000e6000600003c000188000da00060,0x1d0000f00007000039800180000da0006d000310001b8000e8000600003c000188000da00060,0x368001b4000c4000600003c000188000da00060,0x32800198000d20006400031000198000e6000600003c000188000da00060,0xea0007400031000198000da000600003c000188000da00060,527765786853485,0x6d00036800188000f000060]
noncomputable def AT:List Nat:=[0xca0006f000330001c4000e200062,496979490635889,0xea00073000330001d0000de0006a,0x7300031000198000da00064,0xca0006f000330001d4000f200066,0x198000e800073000330001dc000cc00073,514571655708776,0xea0006d0003b000188000ce00066000328001d4000cc00074,0x378001a8000e00006b,0x75000350001b4000e200074,0x198000c800062000368001c4000cc00073,0x740003a8001e4000cc00075,488183414390896,0xca0006f0003b0001c0000e600062,0x3a0001e0000e000073,510173600809065,0x74000368001b4000cc00064,0xcc00065000350001d0000cc00063,0x1d0000e600066000378001cc000e000064,0x73000330001bc000de0006a]
set_option genCtorIdx false in
inductive E where
 |none
 |bool (b:Bool)
 |int (i:Int)
 |str (s:Str)
 |v (i:Nat)
 |g (i:Nat)
 |tup (es:List E)
 |list (es:List E)
 |dict (ks vs:List E)
 |bin (op:Operator) (l r:E)
 |neg (x:E)
 |not (x:E)
 |and (es:List E)
 |or (es:List E)
 |cmp (op:CmpOp) (l r:E)
 |cmp2 (o1 o2:CmpOp) (a b c:E)
 |ite (c a b:E)
 |sub (o i:E)
 |attr (o:E) (n:Nat)
 |call (f:E) (args:List E)
 |sorted (x f:E)
 |meth (o:E) (n:Nat) (args:List E)
 |comp (elt:E) (x:Nat) (src:E) (c:List E)
 |mu (l:Nat) (e:E)
noncomputable abbrev E.ctorIdx(x:E):Nat:=@E.casesOn (λ_=>Nat) x 0 (λ_=>1) (λ_=>2) (λ_=>3) (λ_=>4) (λ_=>5) (λ_=>6) (λ_=>7) (λ_ _=>8) (λ_ _ _=>9) (λ_=>10) (λ_=>11) (λ_=>12) (λ_=>13) (λ_ _ _=>14) (λ_ _ _ _ _=>15) (λ_ _ _=>16) (λ_ _=>17) (λ_ _=>18) (λ_ _=>19) (λ_ _=>20) (λ_ _ _=>21) (λ_ _ _ _=>22) (λ_ _=>23)
set_option genCtorIdx false in
inductive Pat where
 |v (i:Nat)
 |tup (ps:List Pat)
noncomputable abbrev Pat.ctorIdx(x:Pat):Nat:=@Pat.casesOn (λ_=>Nat) x (λ_=>0) (λ_=>1)
set_option genCtorIdx false in
inductive S where
 |assign (p:Pat) (e:E)
 |setattr (o:E) (n:Nat) (e:E)
 |setitem (o i e:E)
 |expr (e:E)
 |ret (e:E)
 |ite (c:E) (a b:List S)
 |for_ (p:Pat) (e:E) (body:List S)
 |while_ (c:E) (body:List S)
 |raise (e:E)
 |try_ (body:List S) (cls:E) (x:Option Nat) (h:List S)
 |pass
noncomputable abbrev S.ctorIdx(x:S):Nat:=@S.casesOn (λ_=>Nat) x (λ_ _=>0) (λ_ _ _=>1) (λ_ _ _=>2) (λ_=>3) (λ_=>4) (λ_ _ _=>5) (λ_ _ _=>6) (λ_ _=>7) (λ_=>8) (λ_ _ _ _=>9) 10
noncomputable def okName(x:Str):Bool:=!(cr (code x) 0x60000300001a0000ec0006300033000194000c000060) && !(cr (code x) 0x60000300001d4000c80006a000328001d0000e80006200036800190000c000060)
theorem A9(h:okName x=a6):(x == ("__debug__":Str))=a7:=by
 cases q:x == ("__debug__":Str)with
 |false=>rfl
 |true =>
  rw[eq_of_beq q]at h
  have:okName ("__debug__":Str)=a7:=by decide +kernel
  rw[this]at h;exact nF h
theorem Ko(h:okName x=a6):(x == ("__classdict__":Str))=a7:=by
 cases q:x == ("__classdict__":Str)with
 |false=>rfl
 |true =>
  rw[eq_of_beq q]at h
  have:okName ("__classdict__":Str)=a7:=by decide +kernel
  rw[this]at h;exact nF h
noncomputable def relab(sc names:List (Str×dh)):List (Str×dh) :=
 names.map λ(n,k)=>if (k == .free && sc.lookup n == a0 .cell) then (n,.cell) else (n,k)
noncomputable def Be:aT->Bool
 |.Starred ..=>a7
 |_=>a6
noncomputable def DE:aT->Bool
 |.Call (.Name _ _) [] [] _=>a7
 |_=>a6
noncomputable def BN:aT->Bool
 |.Slice ..=>a7
 |_=>a6
noncomputable def Bf:aT->Bool
 |.Set ..=>a7
 |_=>a6
noncomputable def DU(tb:List Nat)(sc:List (Str×dh))(x:Str)(p:Str×dh):Bool:=match p.2 with
 |.local|.cell=>(ixS tb p.1).isNone || ixS tb p.1 == ixS tb x
 |.free=>sc.lookup p.1 == a0 .cell
 |.globalImplicit=>a6
 |.globalExplicit=>a7
end
section
abbrev Ah:=Int×Int
set_option genCtorIdx false in
set_option genInjectivity true in
inductive AV where
 |none
 |bool (b:Bool)
 |int (i:Int)
 |str (s:Str)
 |tup (l:List AV)
 |list (l:List AV)
 |dict (l:List (Ah×AV))
 |inst (fs:List (Str×AV))
 |loc (a:bg) (i:Nat)
 |exc (c:Nat)
 |range (a b c:Int)
 |nums (l:List Int)
 |cls (c:Nat)
noncomputable abbrev AV.ctorIdx(x:AV):Nat:=@AV.casesOn (λ_=>Nat) x 0 (λ_=>1) (λ_=>2) (λ_=>3) (λ_=>4) (λ_=>5) (λ_=>6) (λ_=>7) (λ_ _=>8) (λ_=>9) (λ_ _ _=>10) (λ_=>11) (λ_=>12)
set_option genCtorIdx false in
inductive Mg where
 |list (l:List AV)
 |dict (l:List (Ah×AV))
 |inst (dx:bg)
 |attrs (fs:List (Str×AV))
noncomputable abbrev Mg.ctorIdx(x:Mg):Nat:=@Mg.casesOn (λ_=>Nat) x (λ_=>0) (λ_=>1) (λ_=>2) (λ_=>3)
theorem Al(q:x=aa)(e:x=a0 o):False:=by rw[q]at e;exact nS e
theorem AC(h:o.bind f=a0 b):∃a,o=a0 a/\f a=a0 b:=by
 cases o with|none=>exact nS h|some a=>exact⟨a,rfl,h⟩
noncomputable def one?{α:Type}:List α->Option α
 |[]=>aa
 |a::r=>(match r with
  |[]=>a0 a
  |_::_=>aa)
noncomputable def two?{α:Type}:List α->Option (α×α)
 |[]=>aa
 |a::r=>(one? r).bind λb=>a0 (a,b)
theorem one?_out(h:one? l=a0 a):l=[a]:=by
 cases l with
 |nil=>exact nS h
 |cons b r =>
  cases r with
  |nil=>obtain rfl:=ae h;rfl
  |cons _ _=>exact nS h
theorem two?_out(h:two? l=a0 p):l=[p.1,p.2]:=by
 cases l with
 |nil=>exact nS h
 |cons a r =>
  refine X1pp (AC h) λb Y z=>?_;obtain rfl:=ae z;rw[one?_out Y]
noncomputable def AV.int?:AV->Option Int
 |.int x=>a0 x
 |_=>aa
noncomputable def AV.tup?:AV->Option (List AV)
 |.tup l=>a0 l
 |_=>aa
theorem AV.int?_out{a:AV}{x:Int}(h:a.int?=a0 x):a=.int x:=by
 cases a with
 |int y=>obtain rfl:=ae h;rfl
 |_=>exact(Al rfl h).elim
theorem AV.tup?_out{a:AV}{l:List AV}(h:a.tup?=a0 l):a=.tup l:=by
 cases a with
 |tup y=>obtain rfl:=ae h;rfl
 |_=>exact(Al rfl h).elim
noncomputable def Mg.list?:Mg->Option (List AV)
 |.list l=>a0 l
 |_=>aa
noncomputable def Mg.dict?:Mg->Option (List (Ah×AV))
 |.dict l=>a0 l
 |_=>aa
noncomputable def Mg.inst?:Mg->Option bg
 |.inst d=>a0 d
 |_=>aa
noncomputable def Mg.attrs?:Mg->Option (List (Str×AV))
 |.attrs l=>a0 l
 |_=>aa
theorem Mg.list?_out{o:Mg}{l:List AV}(h:o.list?=a0 l):o=.list l:=by
 cases o with
 |list y=>obtain rfl:=ae h;rfl
 |_=>exact(Al rfl h).elim
theorem Mg.dict?_out{o:Mg}{l:List (Ah×AV)}(h:o.dict?=a0 l):o=.dict l:=by
 cases o with
 |dict y=>obtain rfl:=ae h;rfl
 |_=>exact(Al rfl h).elim
theorem Mg.inst?_out{o:Mg}{d:bg}(h:o.inst?=a0 d):o=.inst d:=by
 cases o with
 |inst y=>obtain rfl:=ae h;rfl
 |_=>exact(Al rfl h).elim
theorem Mg.attrs?_out{o:Mg}{l:List (Str×AV)}(h:o.attrs?=a0 l):o=.attrs l:=by
 cases o with
 |attrs y=>obtain rfl:=ae h;rfl
 |_=>exact(Al rfl h).elim
noncomputable def int2?(a b:AV):Option Ah:=a.int?.bind λx=>b.int?.bind λy=>a0 (x,y)
noncomputable def spot?(a:AV):Option Ah:=a.tup?.bind λl=>(two? l).bind λp=>int2? p.1 p.2
theorem int2?_out(h:int2? a b=a0 k):a=.int k.1/\b=.int k.2:=by
 refine X1pp (AC h) λx Y h=>X1pp (AC h) λy z h=>?_;obtain rfl:=ae h;exact⟨AV.int?_out Y,AV.int?_out z⟩
theorem spot?_out{a:AV}{k:Ah}(h:spot? a=a0 k):a=.tup [.int k.1,.int k.2]:=by
 refine X1pp (AC h) λl Y h=>X1pp (AC h) λp z h=>An (int2?_out h) λu T=>?_;rw[AV.tup?_out Y,two?_out z,u,T]
abbrev L0:=bg->Option Mg
def Dom(V:L0)(a:bg):Prop:=V a≠aa
noncomputable def L0.set(V:L0)(a:bg)(o:Mg):L0:=λb=>if b=a then a0 o else V b
theorem L0.set_self(V:L0)(a:bg)(o:Mg):(V.set a o) a=a0 o:=if_pos rfl
theorem L0.set_ne(V:L0)(o:Mg)(h:b≠a):(V.set a o) b=V b:=if_neg h
noncomputable def AX(k:Ah):Int:=reduceHash (Builtin.Tuple.tupleHashOf [hashInt k.1,hashInt k.2])
noncomputable abbrev BD(vs:Array a8)(n:Nat):Obj:={ cls:=.type "tuple",data:=.seq vs n }
noncomputable abbrev AH(vs:Array a8)(n:Nat):Obj:={ cls:=.type "list",data:=.seq vs n }
noncomputable abbrev HL(a b c:Int)(t u v:Tok):Obj:={ cls:=.type "range",data:=.fields #[.int a t,.int b u,.int c v] }
noncomputable abbrev AU(es:Array bT)(n:Nat):Obj:={ cls:=.type "dict",data:=.dict es n }
noncomputable abbrev Dq(C:a8)(dx:bg):Obj:={ cls:=C,dict:=a0 dx,data:=.plain }
abbrev B0:Nat:=29
variable {cv:Nat->a8}
mutual
inductive Rep(cv:Nat->a8)(h:Heap)(D:bg->Prop):AV->a8->Prop
 |none:Rep cv h D .none .none
 |bool (b:Bool):Rep cv h D (.bool b) (.bool b)
 |int (i:Int)(t:Tok):Rep cv h D (.int i) (.int i t)
 |str (s:Str)(t:Tok):Rep cv h D (.str s) (.str s t)
 |tup {l:List AV}{a:bg}{vs:List a8}{n:Nat}:h.get? a=a0 (BD vs.toArray n)->¬D a->RepL cv h D l vs->Rep cv h D (.tup l) (.ref a)
 |list {l:List AV}{a:bg}{vs:List a8}{n:Nat}:h.get? a=a0 (AH vs.toArray n)->¬D a->RepL cv h D l vs->Rep cv h D (.list l) (.ref a)
 |dict {l:List (Ah×AV)}{a:bg}{es:List bT}{n:Nat}:h.get? a=a0 (AU es.toArray n)->¬D a->(a == cG)=a7->(l.map (·.1)).Nodup->RepD cv h D l es->Rep cv h D (.dict l) (.ref a)
 |inst {fs:List (Str×AV)}{a dx:bg}{es:List bT}{n:Nat}:h.get? a=a0 (Dq (cv B0) dx)->(∃C,cv B0=.ref C)->h.get? dx=a0 (AU es.toArray n)->¬D a->¬D dx->RepF cv h D fs es->Rep cv h D (.inst fs) (.ref a)
 |loc (a:bg)(i:Nat):Rep cv h D (.loc a i) (.ref a)
 |exc {c:Nat}{a:bg}{o:Obj}:h.get? a=a0 o->o.cls=cv c->((∃vs,o.data=.fields vs)/\o.dict=aa)->¬D a->(∃C,cv c=.ref C)->Rep cv h D (.exc c) (.ref a)
 |range {a b c:Int}{r:bg}{t u v:Tok}:h.get? r=a0 (HL a b c t u v)->¬D r->Rep cv h D (.range a b c) (.ref r)
 |cls (c:Nat):Rep cv h D (.cls c) (cv c)
 |nums {l:List Int}{a:bg}{o:Obj}{vs:List a8}{n:Nat}:h.get? a=a0 o->o.cls=.type "list"->o.data=.seq vs.toArray n->¬D a->(vs.length=l.length/\∀(i:Nat)(x:Int),l[i]?=a0 x->∃t,vs[i]?=a0 (.int x t))->Rep cv h D (.nums l) (.ref a)
inductive RepL(cv:Nat->a8)(h:Heap)(D:bg->Prop):List AV->List a8->Prop
 |nil:RepL cv h D [] []
 |cons {x:AV}{v:a8}{l:List AV}{vs:List a8}:Rep cv h D x v->RepL cv h D l vs->RepL cv h D (x::l) (v::vs)
inductive RepD(cv:Nat->a8)(h:Heap)(D:bg->Prop):List (Ah×AV)->List bT->Prop
 |nil:RepD cv h D [] []
 |cons {k:Ah}{x:AV}{l:List (Ah×AV)}{t:bg}{tx ty:Tok}{n:Nat}{v:a8}{es:List bT} :
   h.get? t=a0 (BD #[.int k.1 tx,.int k.2 ty] n)->¬D t->Rep cv h D x v->RepD cv h D l es->RepD cv h D ((k,x)::l) (⟨AX k,.ref t,v⟩::es)
inductive RepF(cv:Nat->a8)(h:Heap)(D:bg->Prop):List (Str×AV)->List bT->Prop
 |nil:RepF cv h D [] []
 |cons {n:Str}{x:AV}{l:List (Str×AV)}{hsh:Int}{t:Tok}{v:a8}{es:List bT} :
   Rep cv h D x v->RepF cv h D l es->RepF cv h D ((n,x)::l) (⟨hsh,.str n t,v⟩::es)
end
structure Ext(D:bg->Prop)(h h':Heap):Prop where
 obj:∀b o,h.get? b=a0 o->¬D b->h'.get? b=a0 o
theorem Ext.refl(D:bg->Prop)(h:Heap):Ext D h h:=⟨λZ Z e Z=>e⟩
theorem Ext.of_keeps(k:∀b o,h.get? b=a0 o->h'.get? b=a0 o):Ext D h h':=⟨λb o e Z=>k b o e⟩
theorem Ext.of_but(k:∀b o,¬D b->h.get? b=a0 o->h'.get? b=a0 o):Ext D h h':=⟨λb o e d=>k b o d e⟩
theorem Ext.trans(x:Ext D h h')(y:Ext D' h' h'')(T:∀b,D' b->D b\/h.get? b=aa):Ext D h h'' :=
 ⟨λb o e d=>y.obj b o (x.obj b o e d) λz=>(T b z).elim d λq=>Al q e⟩
def RepV(cv:Nat->a8)(h:Heap)(D:bg->Prop)(a:AV)(v:a8):Prop:=match a with
 |.none=>v=.none
 |.bool b=>v=.bool b
 |.int i=>∃t,v=.int i t
 |.str s=>∃t,v=.str s t
 |.tup l=>∃a vs n,v=.ref a/\h.get? a=a0 (BD (aA vs) n)/\¬D a/\RepL cv h D l vs
 |.list l=>∃a vs n,v=.ref a/\h.get? a=a0 (AH (aA vs) n)/\¬D a/\RepL cv h D l vs
 |.dict l=>∃a es n,v=.ref a/\h.get? a=a0 (AU (aA es) n)/\¬D a/\(a == cG)=a7/\(l.map (·.1)).Nodup/\RepD cv h D l es
 |.inst fs=>∃a dx es n,v=.ref a/\h.get? a=a0 (Dq (cv B0) dx)/\(∃C,cv B0=.ref C)/\h.get? dx=a0 (AU (aA es) n)/\¬D a/\¬D dx/\RepF cv h D fs es
 |.loc a _=>v=.ref a
 |.exc c=>∃a o,v=.ref a/\h.get? a=a0 o/\o.cls=cv c/\((∃vs,o.data=.fields vs)/\o.dict=aa)/\¬D a/\(∃C,cv c=.ref C)
 |.range a b c=>∃r t u w,v=.ref r/\h.get? r=a0 (HL a b c t u w)/\¬D r
 |.cls c=>v=cv c
 |.nums l=>∃a o vs n,v=.ref a/\h.get? a=a0 o/\o.cls=.type "list"/\o.data=.seq (aA vs) n/\¬D a/\(vs.length=l.length/\∀(i:Nat)(x:Int),l[i]?=a0 x->∃t,vs[i]?=a0 (.int x t))
theorem Rep.inv(r:Rep cv h D a v):RepV cv h D a v:=by
 induction r using Rep.casesOn with|none=>rfl|bool b=>rfl|int i t=>exact⟨t,rfl⟩|str s t=>exact⟨t,rfl⟩|tup a b c=>exact⟨_,_,_,rfl,a,b,c⟩|list a b c=>exact⟨_,_,_,rfl,a,b,c⟩|dict a b c d e=>exact⟨_,_,_,rfl,a,b,c,d,e⟩|inst a b c d e f=>exact⟨_,_,_,_,rfl,a,b,c,d,e,f⟩|loc a i=>rfl|exc a b c d e=>exact⟨_,_,rfl,a,b,c,d,e⟩|range a b=>exact⟨_,_,_,_,rfl,a,b⟩|cls c=>rfl|nums a b c d e=>exact⟨_,_,_,_,rfl,a,b,c,d,e⟩
def RepLV(cv:Nat->a8)(h:Heap)(D:bg->Prop)(l:List AV)(vs:List a8):Prop:=match l with
 |[]=>vs=[]
 |x::l=>∃v r,vs=v::r/\Rep cv h D x v/\RepL cv h D l r
theorem RepL.inv(r:RepL cv h D l vs):RepLV cv h D l vs:=by
 induction r using RepL.casesOn with|nil=>rfl|cons a b=>exact⟨_,_,rfl,a,b⟩
def RepDV(cv:Nat->a8)(h:Heap)(D:bg->Prop)(l:List (Ah×AV))(es:List bT):Prop:=match l with
 |[]=>es=[]
 |p::l=>∃t tx ty n v r,es=⟨AX p.1,.ref t,v⟩::r/\h.get? t=a0 (BD #[.int p.1.1 tx,.int p.1.2 ty] n)/\¬D t/\Rep cv h D p.2 v/\RepD cv h D l r
theorem RepD.inv(r:RepD cv h D l es):RepDV cv h D l es:=by
 induction r using RepD.casesOn with|nil=>rfl|cons a b c d=>exact⟨_,_,_,_,_,_,rfl,a,b,c,d⟩
def RepFV(cv:Nat->a8)(h:Heap)(D:bg->Prop)(l:List (Str×AV))(es:List bT):Prop:=match l with
 |[]=>es=[]
 |p::l=>∃hsh t v r,es=⟨hsh,.str p.1 t,v⟩::r/\Rep cv h D p.2 v/\RepF cv h D l r
theorem RepF.inv(r:RepF cv h D l es):RepFV cv h D l es:=by
 induction r using RepF.casesOn with|nil=>rfl|cons a b=>exact⟨_,_,_,_,rfl,a,b⟩
def Dk(o:Obj):Prop:=(∃T,o.cls=.type T/\T ≠ "frame"/\T ≠ "range")/\∃vs,o.data=.fields vs
theorem CJ(y:∀vs,o.data≠.fields vs):¬Dk o:=λq=>q.2.elim y
theorem Ce:¬Dk (BD vs n):=CJ λZ h=>by exact nDf rfl h
theorem H8:¬Dk (AH vs n):=CJ λZ h=>by exact nDf rfl h
theorem DI:¬Dk (AU vs n):=CJ λZ h=>by exact nDf rfl h
theorem H9:¬Dk (Dq C dx):=CJ λZ h=>by exact nDf rfl h
theorem H6:¬Dk (HL a b c t u v):=λq=>by
 obtain⟨⟨T,z,_,O⟩,_⟩:=q;exact O (Value.type.inj z).symm
theorem Ia(c:o.cls=v)(n:∃C,v=.ref C):¬Dk o:=λq=>by
 obtain⟨⟨T,z,_⟩,_⟩:=q;refine X1p n λC B=>?_;rw[z,B]at c;cases c
theorem H7(f:o.data=.seq vs n):¬Dk o:=CJ λZ h=>by rw[f]at h;exact nDf rfl h
section
variable {D D':bg->Prop}{h h':Heap}(k:∀b o,h.get? b=a0 o->¬Dk o->¬D b->h'.get? b=a0 o/\¬D' b)
include k
theorem Rep.turn(r:Rep cv h D av v):Rep cv h' D' av v :=
 Rep.rec (motive_1:=λa v Z=>Rep cv h' D' a v) (motive_2:=λl vs Z=>RepL cv h' D' l vs) (motive_3:=λl es Z=>RepD cv h' D' l es) (motive_4:=λl es Z=>RepF cv h' D' l es)
  .none .bool .int .str (λe d Z r=>.tup (k _ _ e Ce d).1 (k _ _ e Ce d).2 r) (λe d Z r=>.list (k _ _ e H8 d).1 (k _ _ e H8 d).2 r) (λe d u n Z r=>.dict (k _ _ e DI d).1 (k _ _ e DI d).2 u n r)
  (λe nf f d U Z r=>.inst (k _ _ e H9 d).1 nf (k _ _ f DI U).1 (k _ _ e H9 d).2 (k _ _ f DI U).2 r) .loc (λe c f d n=>.exc (k _ _ e (Ia c n) d).1 c f (k _ _ e (Ia c n) d).2 n)
  (λe d=>.range (k _ _ e H6 d).1 (k _ _ e H6 d).2) .cls (λe c f d r=>.nums (k _ _ e (H7 f) d).1 c f (k _ _ e (H7 f) d).2 r)
  .nil (λZ Z r rs=>.cons r rs) .nil (λe d Z Z r rs=>.cons (k _ _ e Ce d).1 (k _ _ e Ce d).2 r rs) .nil (λZ Z r rs=>.cons r rs) r
theorem RepL.turn(r:RepL cv h D av v):RepL cv h' D' av v:=by
 induction av generalizing v with|nil=>rw[show v=[] from r.inv];exact .nil|cons x l y=>refine X2ppp r.inv λu z e a b=>?_;rw[e];exact .cons (a.turn k) (y b)
theorem RepD.turn(r:RepD cv h D av v):RepD cv h' D' av v:=by
 induction av generalizing v with|nil=>rw[show v=[] from r.inv];exact .nil|cons x l y=>refine X6ppppp r.inv λt B T n u z e a b c d=>?_;rw[e];exact .cons (k _ _ a Ce b).1 (k _ _ a Ce b).2 (c.turn k) (y d)
theorem RepF.turn(r:RepF cv h D av v):RepF cv h' D' av v:=by
 induction av generalizing v with|nil=>rw[show v=[] from r.inv];exact .nil|cons x l y=>refine X4ppp r.inv λt u z d e a b=>?_;rw[e];exact .cons (a.turn k) (y b)
end
theorem Ext.turn{D D':bg->Prop}{h h':Heap}(x:Ext D h h')(T:∀b,D' b->D b\/h.get? b=aa)(b:bg)(o:Obj)(e:h.get? b=a0 o)(Z:¬Dk o)(d:¬D b):h'.get? b=a0 o/\¬D' b :=
 ⟨x.obj b o e d,λq=>(T b q).elim d λq=>Al q e⟩
theorem Rep.ext(x:Ext D h h')(T:∀b,D' b->D b\/h.get? b=aa)(r:Rep cv h D av v):Rep cv h' D' av v:=r.turn (x.turn T)
theorem RepL.ext(x:Ext D h h')(T:∀b,D' b->D b\/h.get? b=aa)(r:RepL cv h D av v):RepL cv h' D' av v:=r.turn (x.turn T)
theorem RepD.ext(x:Ext D h h')(T:∀b,D' b->D b\/h.get? b=aa)(r:RepD cv h D av v):RepD cv h' D' av v:=r.turn (x.turn T)
theorem RepF.ext(x:Ext D h h')(T:∀b,D' b->D b\/h.get? b=aa)(r:RepF cv h D av v):RepF cv h' D' av v:=r.turn (x.turn T)
inductive Mm(cv:Nat->a8)(h:Heap)(D:bg->Prop):Mg->bg->Prop
 |list {l:List AV}{a:bg}{vs:List a8}{n:Nat}:h.get? a=a0 (AH vs.toArray n)->RepL cv h D l vs->Mm cv h D (.list l) a
 |dict {l:List (Ah×AV)}{a:bg}{es:List bT}{n:Nat}:h.get? a=a0 (AU es.toArray n)->(a == cG)=a7->(l.map (·.1)).Nodup->RepD cv h D l es->Mm cv h D (.dict l) a
 |inst {dx a:bg}:h.get? a=a0 (Dq (cv B0) dx)->(∃C,cv B0=.ref C)->Mm cv h D (.inst dx) a
 |attrs {fs:List (Str×AV)}{a:bg}{es:List bT}{n:Nat}:h.get? a=a0 (AU es.toArray n)->RepF cv h D fs es->Mm cv h D (.attrs fs) a
def RepOV(cv:Nat->a8)(h:Heap)(D:bg->Prop)(o:Mg)(a:bg):Prop:=match o with
 |.list l=>∃vs n,h.get? a=a0 (AH (aA vs) n)/\RepL cv h D l vs
 |.dict l=>∃es n,h.get? a=a0 (AU (aA es) n)/\(a == cG)=a7/\(l.map (·.1)).Nodup/\RepD cv h D l es
 |.inst dx=>h.get? a=a0 (Dq (cv B0) dx)/\(∃C,cv B0=.ref C)
 |.attrs fs=>∃es n,h.get? a=a0 (AU (aA es) n)/\RepF cv h D fs es
theorem Mm.inv(r:Mm cv h D o a):RepOV cv h D o a:=by
 induction r with|list a b=>exact⟨_,_,a,b⟩|dict a b c d=>exact⟨_,_,a,b,c,d⟩|inst a b=>exact⟨a,b⟩|attrs a b=>exact⟨_,_,a,b⟩
theorem Mm.there(r:Mm cv h D o a):∃ob,h.get? a=a0 ob/\ob.cls≠.type "frame":=by
 induction r with|list e _=>exact⟨_,e,by show Value.type "list"≠.type "frame";decide⟩|dict e _ _ _=>exact⟨_,e,by show Value.type "dict"≠.type "frame";decide⟩|inst e nf=>exact⟨_,e,by refine X1p nf λC q=>?_;show cv B0≠_;rw[q];exact nofun⟩|attrs e _=>exact⟨_,e,by show Value.type "dict"≠.type "frame";decide⟩
structure Sta where
 prog:dN
 w:World
 cv:Nat->a8
 g:Heap
 K:W.Frag
 X:K.In g
 gens:Array GenState
 drawn:Drawn
 os:OsState
 mg:Str->Option a8
 mb:Str->Option a8
 ng:g.Ns bY mg
 nb:g.Ns builtinsNs mb
 lim:g.NoLimit
 sm:∃o,g.get? cG=a0 o
 hx:Option bg
 hxo:∀x,hx=a0 x->∃o vs,g.get? x=a0 o/\o.data=.fields vs/\vs[2]?=a0 bn
theorem Ext.mono(x:Ext D h h')(k:∀a,D a->D' a):Ext D' h h':=⟨λb o e d=>x.obj b o e λq=>d (k b q)⟩
def DN(N:bg->Prop)(V:L0)(a:bg):Prop:=Dom V a\/N a
def Own(env:Env)(a:bg):Prop:=a=env.locals\/∃x,env.cells.lookup x=a0 a
abbrev LocAt(cv:Nat->a8)(h:Heap)(D:bg->Prop)(mc cm:Str->Option a8)(cells:List (Str×bg))(k:Option dh)(x:Str)(av:AV):Prop:=match k with
 |some .local=>∃v,mc x=a0 v/\Rep cv h D av v
 |some .cell|some .free=>∃v c,cells.lookup x=a0 c/\cm x=a0 v/\Rep cv h D av v
 |_=>True
theorem LocAt.map(l:LocAt cv h D mc cm cells k x av)(r:∀{v},Rep cv h D av v->Rep cv h' D' av v)(Y:∀v,mc x=a0 v->mc' x=a0 v)(z:∀v,cm x=a0 v->cm' x=a0 v):LocAt cv h' D' mc' cm' cells k x av:=by
 cases k with
 |none=>exact trivial
 |some k =>
  cases k with|«local»=>refine X1pp l λv a b=>?_;exact⟨v,Y v a,r b⟩|cell=>refine X2ppp l λv c a b d=>?_;exact⟨v,c,a,z v b,r d⟩|free=>refine X2ppp l λv c a b d=>?_;exact⟨v,c,a,z v b,r d⟩|_=>exact trivial
inductive Loc(cv:Nat->a8)(g:Heap)(tb:List Nat)(env:Env)(m:Nat->Option AV)(N:bg->Prop)(V:L0)(h:Heap):Prop
 |mk (mc cm:Str->Option a8) (ns:h.Ns env.locals mc) (cell:∀x c,env.cells.lookup x=a0 c->h.IsCell c (cm x)) (own:∀a,Own env a->¬Dom V a/\g.get? a=aa)
  (apart:∀x y c,env.cells.lookup x=a0 c->env.cells.lookup y=a0 c->x=y) (cl:∀x c,env.cells.lookup x=a0 c->c≠env.locals)
  (names:∀x i av,ixS tb x=a0 i->m i=a0 av->LocAt cv h (DN N V) mc cm env.cells (env.kindOf x) x av):Loc cv g tb env m N V h
structure L2(P O:bg->Prop)(V:L0)(s:ag)(V':L0)(s':ag):Prop where
 ext:Ext (λa=>Dom V a\/O a\/P a) s.heap s'.heap
 frm:∀b o,s.heap.get? b=a0 o->P b->¬O b->¬Dom V b->∃o',s'.heap.get? b=a0 o'/\o'.cls=o.cls/\o'.data=o.data/\o'.dict=o.dict
 dom:∀b,Dom V' b->Dom V b\/s.heap.get? b=aa
 there:∀b o,s.heap.get? b=a0 o->∃o',s'.heap.get? b=a0 o'
abbrev noO:bg->Prop:=λZ=>False
theorem L2.there'(x:L2 P O V s V' s')(e:s.heap.get? b=a0 o)(d:¬Dom V b)(U:¬O b):∃o',s'.heap.get? b=a0 o'/\o'.cls=o.cls/\o'.data=o.data/\o'.dict=o.dict:=by
 by_cases f:P b
 .exact x.frm b o e f U d
 .exact⟨o,x.ext.obj b o e λq=>q.elim d λq=>q.elim U f,rfl,rfl,rfl⟩
theorem L2.of_keeps(k:∀b o,s.heap.get? b=a0 o->s'.heap.get? b=a0 o)(d:∀b,Dom V' b->Dom V b\/s.heap.get? b=aa):L2 P O V s V' s' :=
 ⟨Ext.of_keeps k,λb o e Z Z Z=>⟨o,k b o e,rfl,rfl,rfl⟩,d,λb o e=>⟨o,k b o e⟩⟩
theorem L2.of_but(k:∀b o,¬Dom V b->¬O b->s.heap.get? b=a0 o->s'.heap.get? b=a0 o)(d:∀b,Dom V' b->Dom V b\/s.heap.get? b=aa)
  (t:∀b o,s.heap.get? b=a0 o->∃o',s'.heap.get? b=a0 o'):L2 P O V s V' s' :=
 ⟨Ext.of_but λb o q e=>k b o (λz=>q (.inl z)) (λz=>q (.inr (.inl z))) e,λb o e Z n dd=>⟨o,k b o dd n e,rfl,rfl,rfl⟩,d,t⟩
theorem L2.over(z:L2 P O AG Ak V s)(k:∀a,(∃o,Ak.heap.get? a=a0 o)->∀o,s.heap.get? a=a0 o->s'.heap.get? a=a0 o):L2 P O AG Ak V s' :=
 ⟨⟨λa o e d=>k a ⟨o,e⟩ o (z.ext.obj a o e d)⟩,λa o e d f g=>by
  exact X1pp (z.frm a o e d f g) λu y r=>⟨u,k a ⟨o,e⟩ u y,r⟩,z.dom,λa o e=>by
  exact X1p (z.there a o e) λu y=>⟨u,k a ⟨o,e⟩ u y⟩⟩
theorem L2.refl(P O:bg->Prop)(V:L0)(s:ag):L2 P O V s V s:=L2.of_keeps (λZ Z e=>e) λZ h=>.inl h
theorem L2.toks(P O:bg->Prop)(V:L0)(s:ag)(t:Nat):L2 P O V s V { s with toks:=t }:=L2.of_keeps (λZ Z e=>e) λZ h=>.inl h
theorem L2.new(x:L2 P O V s Aa Ac)(e:Ac.heap.get? b=aa):s.heap.get? b=aa:=by
 cases q:s.heap.get? b with|none=>rfl|some o=>refine X1p (x.there b o q) λu y=>?_;rw[e]at y;exact nS y
theorem L2.ndom(x:L2 P O V s Aa Ac)(e:s.heap.get? b=a0 o)(d:¬Dom V b):¬Dom Aa b:=λq=>(x.dom b q).elim d λz=>Al z e
theorem L2.trans(x:L2 P O V s Aa Ac)(y:L2 P O Aa Ac Ab Aj):L2 P O V s Ab Aj :=
 ⟨x.ext.trans y.ext λb h=>h.elim (λh=>(x.dom b h).imp .inl id) λh=>.inl (.inr h),λb o e n ho d=>by
   exact X1pppp (x.frm b o e n ho d) λu z c' d' i'=>X1pppp (y.frm b u z n ho (x.ndom e d)) λT U c'' B Y=>⟨T,U,c''.trans c',B.trans d',Y.trans i'⟩,
  λb h=>(y.dom b h).elim (x.dom b) λq=>.inr (x.new q),
  λb o e=>by refine X1p (x.there b o e) λu z=>?_;exact y.there b u z⟩
theorem L2.mono(x:L2 P O V s Aa Ac)(k:∀a,O a->O' a):L2 P O' V s Aa Ac :=
 ⟨x.ext.mono λa h=>h.imp id λh=>h.imp (k a) id,λb o e n U d=>x.frm b o e n (λq=>U (k b q)) d,x.dom,x.there⟩
theorem L2.wide(x:L2 P O V s Aa Ac)(k:∀a,P a->P' a):L2 P' O V s Aa Ac :=
 ⟨x.ext.mono λa h=>h.imp id λh=>h.imp id (k a),λb o e Z U d=>x.there' e d U,x.dom,x.there⟩
theorem L2.narrow(x:L2 P' O V s Aa Ac)(k:∀a,P' a->P a\/s.heap.get? a=aa):L2 P O V s Aa Ac :=
 ⟨⟨λb o e d=>x.ext.obj b o e λq=>q.elim (λq=>d (.inl q)) λq=>q.elim (λq=>d (.inr (.inl q))) λq=>(k b q).elim (λq=>d (.inr (.inr q))) λq=>Al q e⟩,λb o e Z U d=>x.there' e d U,x.dom,x.there⟩
theorem L2.out(x:L2 P noO V s Aa Ac)(y:L2 P O Aa Ac Ab Aj)(hO:∀a,O a->s.heap.get? a=aa):L2 P noO V s Ab Aj :=
 ⟨x.ext.trans y.ext λb h=>h.elim (λh=>(x.dom b h).imp .inl id) λh=>h.elim (λh=>.inr (hO b h)) λh=>.inl (.inr (.inr h)),λb o e n Z d=>by
   refine X1pppp (x.frm b o e n id d) λo' B c' d' i'=>?_;obtain⟨T,U,z,u,Y⟩:=y.there' B (x.ndom e d) λq=>by rw[hO b q]at e;exact nS e
   exact⟨T,U,z.trans c',u.trans d',Y.trans i'⟩,
  λb h=>(y.dom b h).elim (x.dom b) λq=>.inr (x.new q),
  λb o e=>by refine X1p (x.there b o e) λo' B=>?_;exact y.there b o' B⟩
theorem Rep.step(x:L2 P O V s V' s')(y:∀a,O a->N a)(d:∀a,P a->N a)(r:Rep cv s.heap (DN N V) av v):Rep cv s'.heap (DN N V') av v :=
 r.ext (x.ext.mono λa h=>h.imp id λh=>h.elim (y a) (d a)) λb h=>h.elim (λh=>(x.dom b h).imp .inl id) λh=>.inl (.inr h)
theorem RepL.step(x:L2 P O V s V' s')(y:∀a,O a->N a)(d:∀a,P a->N a)(r:RepL cv s.heap (DN N V) av v):RepL cv s'.heap (DN N V') av v :=
 r.ext (x.ext.mono λa h=>h.imp id λh=>h.elim (y a) (d a)) λb h=>h.elim (λh=>(x.dom b h).imp .inl id) λh=>.inl (.inr h)
theorem RepD.step(x:L2 P O V s V' s')(y:∀a,O a->N a)(d:∀a,P a->N a)(r:RepD cv s.heap (DN N V) av v):RepD cv s'.heap (DN N V') av v :=
 r.ext (x.ext.mono λa h=>h.imp id λh=>h.elim (y a) (d a)) λb h=>h.elim (λh=>(x.dom b h).imp .inl id) λh=>.inl (.inr h)
theorem Rep.less(r:Rep cv h D av v)(k:∀a,D' a->D a):Rep cv h D' av v:=r.ext (Ext.refl _ _) λb h=>.inl (k b h)
theorem RepL.less(r:RepL cv h D av v)(k:∀a,D' a->D a):RepL cv h D' av v:=r.ext (Ext.refl _ _) λb h=>.inl (k b h)
structure Inv(S:Sta)(N:bg->Prop)(V:L0)(s:ag):Prop where
 keep:∀b o,S.g.get? b=a0 o->s.heap.get? b=a0 o
 gens:s.gens=S.gens
 drawn:s.drawn=S.drawn
 os:s.os=S.os
 σg:∀a,Dom V a->S.g.get? a=aa
 σN:∀a,Dom V a->¬N a
 Nin:∀a,N a->∃o,s.heap.get? a=a0 o/\∀vs,o.data≠.fields vs
 rep:∀a o,V a=a0 o->Mm S.cv s.heap (DN N V) o a
structure St(S:Sta)(tb:List Nat)(env:Env)(N P:bg->Prop)(b:L0×ag)(m:Nat->Option AV)(V:L0)(s:ag):Prop where
 inv:Inv S N V s
 loc:Loc S.cv S.g tb env m N V s.heap
 frm:L2 P noO b.1 b.2 V s
 pN:∀a,P a->N a
 new:∀a,Own env a->b.2.heap.get? a=aa
 own:∀a,Own env a->N a
 gb:∀a,b.2.heap.get? a=aa->S.g.get? a=aa
end
section
noncomputable section
abbrev Nms:=List (Str×dh)
structure IsV(tb:List Nat)(sc:Nms)(x:Str)(i:Nat):Prop where
 ok:okName x=a6
 kind:sc.lookup x=a0 .local\/sc.lookup x=a0 .cell\/sc.lookup x=a0 .free
 ix:ixS tb x=a0 i
structure IsG(sc:Nms)(x:Str)(i:Nat):Prop where
 ok:okName x=a6
 kind:sc.lookup x=a0 .globalImplicit
 ix:ixS GT x=a0 i
def CO(C:aT->Prop)(pe:Option aT)(e:E):Prop:=(pe=aa/\e=.none)\/∃x,pe=a0 x/\C x
mutual
noncomputable def E.st:E->E
 |.tup es=>.tup (E.stL es)
 |.list es=>.list (E.stL es)
 |.dict ks vs=>.dict (E.stL ks) (E.stL vs)
 |.bin op l r=>.bin op l.st r.st
 |.neg x=>.neg x.st
 |.not x=>.not x.st
 |.and es=>.and (E.stL es)
 |.or es=>.or (E.stL es)
 |.cmp op l r=>.cmp op l.st r.st
 |.cmp2 o1 o2 a b c=>.cmp2 o1 o2 a.st b.st c.st
 |.ite c a b=>.ite c.st a.st b.st
 |.sub o i=>.sub o.st i.st
 |.call f args=>.call f (E.stL args)
 |.sorted x f=>.sorted x.st f.st
 |.meth o n args=>.meth o.st n (E.stL args)
 |.comp elt x src cs=>.comp elt.st x src.st (E.stL cs)
 |.mu _ e=>e.st
 |e=>e
noncomputable def E.stL:List E->List E
 |[]=>[]
 |e::r=>e.st::E.stL r
end
mutual
noncomputable def stS:Internal.S->Internal.S
 |.assign p e=>.assign p e.st
 |.setattr o n e=>.setattr o.st n e.st
 |.setitem o i e=>.setitem o.st i.st e.st
 |.expr e=>.expr e.st
 |.ret e=>.ret e.st
 |.ite c a b=>.ite c.st (GZ a) (GZ b)
 |.for_ p e body=>.for_ p e.st (GZ body)
 |.while_ c body=>.while_ c.st (GZ body)
 |.raise e=>.raise e.st
 |.try_ b c x h=>.try_ (GZ b) c.st x (GZ h)
 |.pass=>.pass
noncomputable def GZ:List Internal.S->List Internal.S
 |[]=>[]
 |s::r=>stS s::GZ r
end
noncomputable def Bz:aT->Nat
 |.ListComp ..=>1
 |.SetComp ..=>1
 |.DictComp ..=>1
 |.Tuple ..=>2
 |.UnaryOp op _ _=>(match op with
  |.Not=>3
  |_=>0)
 |.BoolOp ..=>3
 |.Compare ..=>3
 |.IfExp ..=>3
 |_=>0
noncomputable def kd:E->Nat
 |.comp ..=>1
 |.tup ..=>2
 |.not ..=>3
 |.and ..=>3
 |.or ..=>3
 |.cmp ..=>3
 |.cmp2 ..=>3
 |.ite ..=>3
 |.mu _ e=>kd e
 |_=>0
mutual
def CEb(tb:List Nat):Nms->aT->E->Prop
 |sc,pe,.none=>∃k p,pe=.Constant .none k p
 |sc,pe,.bool b=>∃k p,pe=.Constant (.bool b) k p
 |sc,pe,.int i=>∃k p,pe=.Constant (.int i) k p
 |sc,pe,.str s=>∃k p,pe=.Constant (.str s) k p
 |sc,pe,.v i=>∃x p,pe=.Name x p/\IsV tb sc x i
 |sc,pe,.g i=>∃x p,pe=.Name x p/\IsG sc x i
 |sc,pe,.tup es'=>∃es k p,pe=.Tuple es k p/\CEbs tb sc es es'
 |sc,pe,.list es'=>∃es p,pe=.List es p/\CEbs tb sc es es'
 |sc,pe,.dict ks' vs'=>∃ks vs p,pe=.Dict ks vs p/\CKbs tb sc ks ks'/\CEbs tb sc vs vs'
 |sc,pe,.bin op l' r'=>∃l r p,pe=.BinOp l op r p/\(Bz l=kd l'/\CEb tb sc l l')/\(Bz r=kd r'/\CEb tb sc r r')
 |sc,pe,.neg x'=>∃x p,pe=.UnaryOp .USub x p/\(Bz x=kd x'/\CEb tb sc x x')
 |sc,pe,.not x'=>∃x p,pe=.UnaryOp .Not x p/\(Bz x=kd x'/\CEb tb sc x x')
 |sc,pe,.and es'=>∃es p,pe=.BoolOp .And es p/\CEbs tb sc es es'
 |sc,pe,.or es'=>∃es p,pe=.BoolOp .Or es p/\CEbs tb sc es es'
 |sc,pe,.cmp op l' r'=>∃l r p,pe=.Compare l [op] [r] p/\Bf r=a6/\(Bz l=kd l'/\CEb tb sc l l')/\(Bz r=kd r'/\CEb tb sc r r')
 |sc,pe,.cmp2 o1 o2 a' b' c'=>∃a b c p,pe=.Compare a [o1,o2] [b,c] p/\Bf b=a6/\Bf c=a6/\(Bz a=kd a'/\CEb tb sc a a')/\(Bz b=kd b'/\CEb tb sc b b')/\(Bz c=kd c'/\CEb tb sc c c')
 |sc,pe,.ite c' a' b'=>∃c a b p,pe=.IfExp c a b p/\(Bz c=kd c'/\CEb tb sc c c')/\(Bz a=kd a'/\CEb tb sc a a')/\(Bz b=kd b'/\CEb tb sc b b')
 |sc,pe,.sub o' i'=>∃o i p,pe=.Subscript o i p/\BN i=a6/\(Bz o=kd o'/\CEb tb sc o o')/\(Bz i=kd i'/\CEb tb sc i i')
 |sc,pe,.attr (.v i) k=>∃x q a p,pe=.Attribute (.Name x q) a p/\IsV tb sc x i/\ixS AT a=a0 k
 |sc,pe,.attr _ _=>False
 |sc,pe,.meth o' k args'=>∃o a ap args p,pe=.Call (.Attribute o a ap) args [] p/\DE o=a6/\ap.endLine=p.line/\args.length<29/\(Bz o=kd o'/\CEb tb sc o o')/\ixS AT a=a0 k/\CEbs tb sc args args'
 |sc,pe,.call (.g i) args'=>∃x q args p,pe=.Call (.Name x q) args [] p/\args.length<29/\IsG sc x i/\CEbs tb sc args args'
 |sc,pe,.call _ _=>False
 |sc,pe,.sorted a' f'=>∃a f kp p q,∃x key:Str,pe=.Call (.Name x q) [a] [⟨a0 key,f,kp⟩] p/\x = "sorted"/\key = "key"/\sc.lookup x=a0 .globalImplicit/\Be a=a6/\(Bz a=kd a'/\CEb tb sc a a')/\(Bz f=kd f'/\CEb tb sc f f')
 |sc,pe,.comp elt' i src' cs'=>∃elt x xp src cs scope p,pe=.ListComp elt [⟨.Name x xp,src,cs,0⟩] scope p/\scope.kind=.function/\(scope.names.lookup x=a0 .local\/scope.names.lookup x=a0 .cell)/\Bf src=a6 /\
   okName x=a6/\(∀q∈scope.names,DU tb sc x q=a6/\scope.names.lookup q.1=a0 q.2)/\(Bz src=kd src'/\CEb tb sc src src')/\ixS tb x=a0 i/\CEbs tb (relab sc scope.names) cs cs'/\(Bz elt=kd elt'/\CEb tb (relab sc scope.names) elt elt')
 |_,_,.mu _ _=>False
def CEbs(tb:List Nat):Nms->List aT->List E->Prop
 |_,pe,[]=>pe=[]
 |sc,pe,e'::r'=>∃e r,pe=e::r/\Be e=a6/\(Bz e=kd e'/\CEb tb sc e e')/\CEbs tb sc r r'
def CKbs(tb:List Nat):Nms->List (Option aT)->List E->Prop
 |_,pe,[]=>pe=[]
 |sc,pe,e'::r'=>∃e r,pe=a0 e::r/\(Bz e=kd e'/\CEb tb sc e e')/\CKbs tb sc r r'
end
def CEU(tb:List Nat)(sc:Nms)(pe:aT)(e:E):Prop:=Bz pe=kd e/\CEb tb sc pe e
theorem CEU.none:CEU tb sc (.Constant .none k p) .none:=⟨rfl,_,_,rfl⟩
theorem CEU.bool:CEU tb sc (.Constant (.bool b) k p) (.bool b):=⟨rfl,_,_,rfl⟩
theorem CEU.int:CEU tb sc (.Constant (.int i) k p) (.int i):=⟨rfl,_,_,rfl⟩
theorem CEU.str:CEU tb sc (.Constant (.str s) k p) (.str s):=⟨rfl,_,_,rfl⟩
theorem CEU.v(u:IsV tb sc x i):CEU tb sc (.Name x p) (.v i):=⟨rfl,_,_,rfl,u⟩
theorem CEU.g(u:IsG sc x i):CEU tb sc (.Name x p) (.g i):=⟨rfl,_,_,rfl,u⟩
theorem CEU.tup(u:CEbs tb sc es es'):CEU tb sc (.Tuple es k p) (.tup es'):=⟨rfl,_,_,_,rfl,u⟩
theorem CEU.list(u:CEbs tb sc es es'):CEU tb sc (.List es p) (.list es'):=⟨rfl,_,_,rfl,u⟩
theorem CEU.dict(u:CKbs tb sc ks ks')(y:CEbs tb sc vs vs'):CEU tb sc (.Dict ks vs p) (.dict ks' vs'):=⟨rfl,_,_,_,rfl,u,y⟩
theorem CEU.bin(u:CEU tb sc l l')(y:CEU tb sc r r'):CEU tb sc (.BinOp l op r p) (.bin op l' r'):=⟨rfl,_,_,_,rfl,u,y⟩
theorem CEU.neg(u:CEU tb sc x x'):CEU tb sc (.UnaryOp .USub x p) (.neg x'):=⟨rfl,_,_,rfl,u⟩
theorem CEU.not(u:CEU tb sc x x'):CEU tb sc (.UnaryOp .Not x p) (.not x'):=⟨rfl,_,_,rfl,u⟩
theorem CEU.and(u:CEbs tb sc es es'):CEU tb sc (.BoolOp .And es p) (.and es'):=⟨rfl,_,_,rfl,u⟩
theorem CEU.or(u:CEbs tb sc es es'):CEU tb sc (.BoolOp .Or es p) (.or es'):=⟨rfl,_,_,rfl,u⟩
theorem CEU.cmp(u:Bf r=a6)(y:CEU tb sc l l')(z:CEU tb sc r r'):CEU tb sc (.Compare l [op] [r] p) (.cmp op l' r'):=⟨rfl,_,_,_,rfl,u,y,z⟩
theorem CEU.cmp2(u:Bf b=a6)(y:Bf c=a6)(z:CEU tb sc a a')(B:CEU tb sc b b')(a4:CEU tb sc c c'):CEU tb sc (.Compare a [o1,o2] [b,c] p) (.cmp2 o1 o2 a' b' c'):=⟨rfl,_,_,_,_,rfl,u,y,z,B,a4⟩
theorem CEU.ite(u:CEU tb sc c c')(y:CEU tb sc a a')(z:CEU tb sc b b'):CEU tb sc (.IfExp c a b p) (.ite c' a' b'):=⟨rfl,_,_,_,_,rfl,u,y,z⟩
theorem CEU.sub(u:BN i=a6)(y:CEU tb sc o o')(z:CEU tb sc i i'):CEU tb sc (.Subscript o i p) (.sub o' i'):=⟨rfl,_,_,_,rfl,u,y,z⟩
theorem CEU.attr(u:IsV tb sc x i)(y:ixS AT a=a0 k):CEU tb sc (.Attribute (.Name x q) a p) (.attr (.v i) k):=⟨rfl,_,_,_,_,rfl,u,y⟩
theorem CEU.meth(u:DE o=a6)(y:ap.endLine=p.line)(z:args.length<29)(B:CEU tb sc o o')(a4:ixS AT a=a0 k)(T:CEbs tb sc args args'):CEU tb sc (.Call (.Attribute o a ap) args [] p) (.meth o' k args'):=⟨rfl,_,_,_,_,_,rfl,u,y,z,B,a4,T⟩
theorem CEU.callg(u:args.length<29)(y:IsG sc x i)(z:CEbs tb sc args args'):CEU tb sc (.Call (.Name x q) args [] p) (.call (.g i) args'):=⟨rfl,_,_,_,_,rfl,u,y,z⟩
theorem CEU.sorted{x key:Str}(u:x = "sorted")(y:key = "key")(z:sc.lookup x=a0 .globalImplicit)(B:Be a=a6)(a4:CEU tb sc a a')(T:CEU tb sc f f'):CEU tb sc (.Call (.Name x q) [a] [⟨a0 key,f,kp⟩] p) (.sorted a' f'):=⟨rfl,_,_,_,_,_,_,_,rfl,u,y,z,B,a4,T⟩
theorem CEU.comp(U:scope.kind=.function)(Y:(scope.names.lookup x=a0 .local\/scope.names.lookup x=a0 .cell))(z:Bf src=a6)(B:okName x=a6)(a4:(∀q∈scope.names,DU tb sc x q=a6/\scope.names.lookup q.1=a0 q.2))(y:CEU tb sc src src')(T:ixS tb x=a0 i)(u:CEbs tb (relab sc scope.names) cs cs')(d:CEU tb (relab sc scope.names) elt elt'):CEU tb sc (.ListComp elt [⟨.Name x xp,src,cs,0⟩] scope p) (.comp elt' i src' cs'):=⟨rfl,_,_,_,_,_,_,_,rfl,U,Y,z,B,a4,y,T,u,d⟩
theorem CEbs.nil:CEbs tb sc [] []:=rfl
theorem CEbs.cons(a:Be e=a6)(b:CEU tb sc e e')(c:CEbs tb sc r r'):CEbs tb sc (e::r) (e'::r'):=⟨_,_,rfl,a,b,c⟩
theorem CKbs.nil:CKbs tb sc [] []:=rfl
theorem CKbs.cons(a:CEU tb sc e e')(b:CKbs tb sc r r'):CKbs tb sc (a0 e::r) (e'::r'):=⟨_,_,rfl,a,b⟩
theorem CO.no:CO C aa .none:=.inl ⟨rfl,rfl⟩
theorem CO.yes(a:C e):CO C (a0 e) e':=.inr ⟨_,rfl,a⟩
def CE(tb:List Nat)(sc:Nms)(pe:aT)(e:E):Prop:=CEU tb sc pe e.st
def CEs(tb:List Nat)(sc:Nms)(pe:List aT)(es:List E):Prop:=CEbs tb sc pe (E.stL es)
def CKs(tb:List Nat)(sc:Nms)(pe:List (Option aT))(es:List E):Prop:=CKbs tb sc pe (E.stL es)
theorem CEs.cons(a:Be e=a6)(b:CE tb sc e e')(c:CEs tb sc r r'):CEs tb sc (e::r) (e'::r'):=⟨_,_,rfl,a,b,c⟩
mutual
def CP(tb:List Nat)(sc:Nms):aT->Pat->Prop
 |pe,.v i=>∃x p,pe=.Name x p/\sc.lookup x≠a0 .free/\IsV tb sc x i
 |pe,.tup es'=>∃es k p,pe=.Tuple es k p/\CPs tb sc es es'
def CPs(tb:List Nat)(sc:Nms):List aT->List Pat->Prop
 |pe,[]=>pe=[]
 |pe,e'::r'=>∃e r,pe=e::r/\Be e=a6/\CP tb sc e e'/\CPs tb sc r r'
end
theorem CP.v(a:sc.lookup x≠a0 .free)(b:IsV tb sc x i):CP tb sc (.Name x p) (.v i):=⟨_,_,rfl,a,b⟩
theorem CP.tup(a:CPs tb sc es es'):CP tb sc (.Tuple es k p) (.tup es'):=⟨_,_,_,rfl,a⟩
theorem CPs.nil:CPs tb sc [] []:=rfl
theorem CPs.cons(a:Be e=a6)(b:CP tb sc e e')(c:CPs tb sc r r'):CPs tb sc (e::r) (e'::r'):=⟨_,_,rfl,a,b,c⟩
mutual
def CSb(tb:List Nat)(sc:Nms):eI->S->Prop
 |ps,.setitem o' i' e'=>∃o i e p q,ps=.Assign [.Subscript o i q] e p/\BN i=a6/\CEU tb sc o o'/\CEU tb sc i i'/\CEU tb sc e e'
 |ps,.setattr o' k e'=>∃o a e p q,ps=.Assign [.Attribute o a q] e p/\CEU tb sc o o'/\ixS AT a=a0 k/\CEU tb sc e e'
 |ps,.assign t' e'=>∃t e p,ps=.Assign [t] e p/\CP tb sc t t'/\CEU tb sc e e'
 |ps,.expr e'=>∃e p,ps=.Expr e p/\CEU tb sc e e'
 |ps,.ret e'=>∃e p,ps=.Return (a0 e) p/\CEU tb sc e e'
 |ps,.ite c' a' b'=>∃c a b p,ps=.If c a b p/\CEU tb sc c c'/\CSbs tb sc a a'/\CSbs tb sc b b'
 |ps,.for_ t' e' b'=>∃t e b p,ps=.For t e b [] p/\Bf e=a6/\CP tb sc t t'/\CEU tb sc e e'/\CSbs tb sc b b'
 |ps,.while_ c' b'=>∃c b p,ps=.While c b [] p/\CEU tb sc c c'/\CSbs tb sc b b'
 |ps,.raise e'=>∃e p,ps=.Raise (a0 e) none p/\CEU tb sc e e'
 |ps,.try_ b' t' none h'=>∃b t h q p,ps=.Try b [.ExceptHandler (a0 t) none h q] [] [] p/\CSbs tb sc b b'/\CEU tb sc t t'/\CSbs tb sc h h'
 |ps,.try_ b' t' (a0 i) h'=>∃b t h q p x,ps=.Try b [.ExceptHandler (a0 t) (a0 x) h q] [] [] p/\CSbs tb sc b b'/\CEU tb sc t t'/\sc.lookup x≠a0 .free/\IsV tb sc x i/\CSbs tb sc h h'
 |ps,.pass=>∃p,ps=.Pass p
def CSbs(tb:List Nat)(sc:Nms):List eI->List S->Prop
 |ps,[]=>ps=[]
 |ps,e'::r'=>∃e r,ps=e::r/\CSb tb sc e e'/\CSbs tb sc r r'
end
theorem CSb.setitem(u:BN i=a6)(y:CEU tb sc o o')(z:CEU tb sc i i')(B:CEU tb sc e e'):CSb tb sc (.Assign [.Subscript o i q] e p) (.setitem o' i' e'):=⟨_,_,_,_,_,rfl,u,y,z,B⟩
theorem CSb.setattr(u:CEU tb sc o o')(y:ixS AT a=a0 k)(z:CEU tb sc e e'):CSb tb sc (.Assign [.Attribute o a q] e p) (.setattr o' k e'):=⟨_,_,_,_,_,rfl,u,y,z⟩
theorem CSb.assign(u:CP tb sc t t')(y:CEU tb sc e e'):CSb tb sc (.Assign [t] e p) (.assign t' e'):=⟨_,_,_,rfl,u,y⟩
theorem CSb.expr(u:CEU tb sc e e'):CSb tb sc (.Expr e p) (.expr e'):=⟨_,_,rfl,u⟩
theorem CSb.ret(u:CEU tb sc e e'):CSb tb sc (.Return (a0 e) p) (.ret e'):=⟨_,_,rfl,u⟩
theorem CSb.ite(u:CEU tb sc c c')(y:CSbs tb sc a a')(z:CSbs tb sc b b'):CSb tb sc (.If c a b p) (.ite c' a' b'):=⟨_,_,_,_,rfl,u,y,z⟩
theorem CSb.for_(u:Bf e=a6)(y:CP tb sc t t')(z:CEU tb sc e e')(B:CSbs tb sc b b'):CSb tb sc (.For t e b [] p) (.for_ t' e' b'):=⟨_,_,_,_,rfl,u,y,z,B⟩
theorem CSb.while_(u:CEU tb sc c c')(y:CSbs tb sc b b'):CSb tb sc (.While c b [] p) (.while_ c' b'):=⟨_,_,_,rfl,u,y⟩
theorem CSb.raise(u:CEU tb sc e e'):CSb tb sc (.Raise (a0 e) none p) (.raise e'):=⟨_,_,rfl,u⟩
theorem CSb.try0(u:CSbs tb sc b b')(y:CEU tb sc t t')(z:CSbs tb sc h h'):CSb tb sc (.Try b [.ExceptHandler (a0 t) none h q] [] [] p) (.try_ b' t' none h'):=⟨_,_,_,_,_,rfl,u,y,z⟩
theorem CSb.try1(u:CSbs tb sc b b')(y:CEU tb sc t t')(z:sc.lookup x≠a0 .free)(B:IsV tb sc x i)(a4:CSbs tb sc h h'):CSb tb sc (.Try b [.ExceptHandler (a0 t) (a0 x) h q] [] [] p) (.try_ b' t' (a0 i) h'):=⟨_,_,_,_,_,_,rfl,u,y,z,B,a4⟩
theorem CSb.pass:CSb tb sc (.Pass p) .pass:=⟨_,rfl⟩
theorem CSbs.nil:CSbs tb sc [] []:=rfl
theorem CSbs.cons(a:CSb tb sc e e')(b:CSbs tb sc r r'):CSbs tb sc (e::r) (e'::r'):=⟨_,_,rfl,a,b⟩
def CS(tb:List Nat)(sc:Nms)(ps:eI)(s:S):Prop:=CSb tb sc ps (stS s)
def CSs(tb:List Nat)(sc:Nms)(ps:List eI)(ss:List S):Prop:=CSbs tb sc ps (GZ ss)
theorem CE.inv(h:CE tb sc pe e):CEb tb sc pe e.st:=h.2
theorem CEU.inv(h:CEU tb sc pe e):CEb tb sc pe e:=h.2
theorem CEbs.inv(h:CEbs tb sc pe es):CEbs tb sc pe es:=h
theorem CEbs.inv_nil(h:CEbs tb sc pe []):pe=[]:=h
theorem CSbs.inv(h:CSbs tb sc ps ss):CSbs tb sc ps ss:=h
noncomputable def E.un:E->E
 |.mu _ e=>e
 |e=>e
theorem CE.un(h:CE tb sc pe e):CE tb sc pe e.un:=by
 cases e<;>exact h
theorem CEs.inv_nil(h:CEs tb sc pe []):pe=[]:=h
theorem CEs.inv(h:CEs tb sc pe (e'::r')):∃e r,pe=e::r/\Be e=a6/\CE tb sc e e'/\CEs tb sc r r':=h
theorem CKs.inv(h:CKs tb sc pe es):CKbs tb sc pe (E.stL es):=h
theorem CP.inv(h:CP tb sc pe e):CP tb sc pe e:=h
theorem CPs.inv_nil(h:CPs tb sc pe []):pe=[]:=h
theorem CPs.inv(h:CPs tb sc pe (e'::r')):∃e r,pe=e::r/\Be e=a6/\CP tb sc e e'/\CPs tb sc r r':=h
theorem CS.inv(h:CS tb sc ps s):CSb tb sc ps (stS s):=h
theorem CSs.inv_nil(h:CSs tb sc pe []):pe=[]:=h
theorem CSs.inv(h:CSs tb sc pe (e'::r')):∃e r,pe=e::r/\CS tb sc e e'/\CSs tb sc r r':=h
noncomputable def LX(tb:List Nat)(sc:Nms)(x:Str):Option ((Σ' i,IsV tb sc x i) ⊕' (Σ' i,IsG sc x i)) :=
 if ok:okName x=a6 then match q:sc.lookup x with
 |some .local=>match e:ixS tb x with
  |some i=>a0 (.inl ⟨i,ok,.inl q,e⟩)
  |none=>none
 |some .cell=>match e:ixS tb x with
  |some i=>a0 (.inl ⟨i,ok,.inr (.inl q),e⟩)
  |none=>none
 |some .free=>match e:ixS tb x with
  |some i=>a0 (.inl ⟨i,ok,.inr (.inr q),e⟩)
  |none=>none
 |some .globalImplicit=>match e:ixS GT x with
  |some i=>a0 (.inr ⟨i,ok,q,e⟩)
  |none=>none
 |_=>none
 else none
noncomputable def cAt(a:Str):Option {k:Nat // ixS AT a=a0 k}:=match ixS AT a with
 |some k=>a0 ⟨k,rfl⟩
 |none=>none
noncomputable def cIx(tb:List Nat)(a:Str):Option {k:Nat // ixS tb a=a0 k}:=match ixS tb a with
 |some k=>a0 ⟨k,rfl⟩
 |none=>none
noncomputable def okScope(tb:List Nat)(sc:Nms)(x:Str)(src:aT)(scope:Scope):Bool:=scope.kind == .function && ((scope.names.lookup x == a0 .local || scope.names.lookup x == a0 .cell) && (Bf src && (okName x && scope.names.all λp=>DU tb sc x p && scope.names.lookup p.1 == a0 p.2)))
theorem okScope.of(h:okScope tb sc x src scope=a6):scope.kind=.function/\(scope.names.lookup x=a0 .local\/scope.names.lookup x=a0 .cell)/\Bf src=a6/\okName x=a6/\(∀q∈scope.names,DU tb sc x q=a6/\scope.names.lookup q.1=a0 q.2):=by
 simp only[okScope,bc,beq_iff_eq,d9,cB]at h;exact h
abbrev RE(tb:List Nat):=((sc:Nms)->(pe:aT)->Option {e:E // CEU tb sc pe e})×((sc:Nms)->(pe:List aT)->Option {e:List E // CEbs tb sc pe e})×((sc:Nms)->(pe:List (Option aT))->Option {e:List E // CKbs tb sc pe e})×((sc:Nms)->(pe:Option aT)->Option {e:E // CO (λx=>CEU tb sc x e) pe e})
noncomputable def rE1(tb:List Nat)(rr:RE tb)(sc:Nms)(pe:aT):Option {e:E // CEU tb sc pe e}:=match pe with
  |.Constant c _ _=>(match c with
   |.none=>a0 ⟨.none,.none⟩
   |.bool b=>a0 ⟨.bool b,.bool⟩
   |.int i=>a0 ⟨.int i,.int⟩
   |.str s=>a0 ⟨.str s,.str⟩
   |_=>none)
  |.Name x _=>(match LX tb sc x with
   |some (.inl i)=>a0 ⟨.v i.1,.v i.2⟩
   |some (.inr i)=>a0 ⟨.g i.1,.g i.2⟩
   |none=>none)
  |.Tuple es _ _=>(rr.2.1 sc es).map λa=>⟨.tup a.1,.tup a.2⟩
  |.List es _=>(rr.2.1 sc es).map λa=>⟨.list a.1,.list a.2⟩
  |.Dict ks vs _=>(rr.2.2.1 sc ks).bind λa=>(rr.2.1 sc vs).map λb=>⟨.dict a.1 b.1,.dict a.2 b.2⟩
  |.BinOp l op r _=>(rr.1 sc l).bind λa=>(rr.1 sc r).map λb=>⟨.bin op a.1 b.1,.bin a.2 b.2⟩
  |.UnaryOp op x _=>(match op with
   |.USub=>(rr.1 sc x).map λa=>⟨.neg a.1,.neg a.2⟩
   |.Not=>(rr.1 sc x).map λa=>⟨.not a.1,.not a.2⟩
   |_=>none)
  |.BoolOp op es _=>(match op with
   |.And=>(rr.2.1 sc es).map λa=>⟨.and a.1,.and a.2⟩
   |.Or=>(rr.2.1 sc es).map λa=>⟨.or a.1,.or a.2⟩)
  |.Compare l os rs _=>(match os,rs with
   |[op],[r]=>if q:Bf r=a6 then (rr.1 sc l).bind λa=>(rr.1 sc r).map λb=>⟨.cmp op a.1 b.1,.cmp q a.2 b.2⟩ else none
   |[o1,o2],[b,c]=>if q:Bf b=a6 then (if q':Bf c=a6 then (rr.1 sc l).bind λx=>(rr.1 sc b).bind λy=>(rr.1 sc c).map λz=>⟨.cmp2 o1 o2 x.1 y.1 z.1,.cmp2 q q' x.2 y.2 z.2⟩ else none) else none
   |_,_=>none)
  |.IfExp c a b _=>(rr.1 sc c).bind λx=>(rr.1 sc a).bind λy=>(rr.1 sc b).map λz=>⟨.ite x.1 y.1 z.1,.ite x.2 y.2 z.2⟩
  |.Subscript o i _=>(match i with
   |i=>if q:BN i=a6 then (rr.1 sc o).bind λx=>(rr.1 sc i).map λy=>⟨.sub x.1 y.1,.sub q x.2 y.2⟩ else none)
  |.Attribute o a _=>(match o with
   |.Name x _=>(match LX tb sc x with
    |some (.inl i)=>(cAt a).map λk=>⟨.attr (.v i.1) k.1,.attr i.2 k.2⟩
    |_=>none)
   |_=>none)
  |.Call f args kw p=>(match f,kw with
   |.Attribute o a ap,[]=>if q:DE o=a6 then (if q':ap.endLine=p.line then (if q'':args.length<29 then (rr.1 sc o).bind λx=>(cAt a).bind λk=>(rr.2.1 sc args).map λy=>⟨.meth x.1 k.1 y.1,.meth q q' q'' x.2 k.2 y.2⟩ else none) else none) else none
   |.Name x _,[]=>if q:args.length<29 then (match LX tb sc x with
    |some (.inr i)=>(rr.2.1 sc args).map λy=>⟨.call (.g i.1) y.1,.callg q i.2 y.2⟩
    |_=>none) else none
   |.Name x _,[⟨a0 k,g,_⟩]=>(match args with
    |[a]=>if q:x = "sorted"/\k = "key"/\sc.lookup x=a0 .globalImplicit/\Be a=a6 then (rr.1 sc a).bind λy=>(rr.1 sc g).map λz=>⟨.sorted y.1 z.1,.sorted q.1 q.2.1 q.2.2.1 q.2.2.2 y.2 z.2⟩ else none
    |_=>none)
   |_,_=>none)
  |.ListComp elt gens scope _=>(match gens with
   |[⟨.Name x _,src,cs,0⟩]=>if q:okScope tb sc x src scope=a6 then
     (rr.1 sc src).bind λy=>(cIx tb x).bind λi=>(rr.2.1 (relab sc scope.names) cs).bind λz=>(rr.1 (relab sc scope.names) elt).map λu=>⟨.comp u.1 i.1 y.1 z.1,.comp (okScope.of q).1 (okScope.of q).2.1 (okScope.of q).2.2.1 (okScope.of q).2.2.2.1 (okScope.of q).2.2.2.2 y.2 i.2 z.2 u.2⟩
    else none
   |_=>none)
  |_=>none
noncomputable def rEs1(tb:List Nat)(rr:RE tb)(sc:Nms)(pe:List aT):Option {e:List E // CEbs tb sc pe e}:=match pe with
 |[]=>a0 ⟨[],.nil⟩
 |e::r=>if q:Be e=a6 then (rr.1 sc e).bind λa=>(rr.2.1 sc r).map λb=>⟨a.1::b.1,.cons q a.2 b.2⟩ else none
noncomputable def rKs1(tb:List Nat)(rr:RE tb)(sc:Nms)(pe:List (Option aT)):Option {e:List E // CKbs tb sc pe e}:=match pe with
 |[]=>a0 ⟨[],.nil⟩
 |e::r=>(match e with
  |some e=>(rr.1 sc e).bind λa=>(rr.2.2.1 sc r).map λb=>⟨a.1::b.1,.cons a.2 b.2⟩
  |none=>none)
noncomputable def rO1(tb:List Nat)(rr:RE tb)(sc:Nms)(pe:Option aT):Option {e:E // CO (λx=>CEU tb sc x e) pe e}:=match pe with
 |none=>a0 ⟨.none,.no⟩
 |some e=>(rr.1 sc e).map λa=>⟨a.1,.yes a.2⟩
noncomputable def rE(tb:List Nat)(n:Nat):RE tb:=Nat.rec (motive:=λZ=>RE tb) ⟨λZ Z=>none,λZ Z=>none,λZ Z=>none,λZ Z=>none⟩ (λZ r=>⟨rE1 tb r,rEs1 tb r,rKs1 tb r,rO1 tb r⟩) n
abbrev RP(tb:List Nat):=((sc:Nms)->(pe:aT)->Option {e:Pat // CP tb sc pe e})×((sc:Nms)->(pe:List aT)->Option {e:List Pat // CPs tb sc pe e})
noncomputable def rP1(tb:List Nat)(rr:RP tb)(sc:Nms)(pe:aT):Option {e:Pat // CP tb sc pe e}:=match pe with
  |.Name x _=>if q:sc.lookup x=a0 .free then none else (match LX tb sc x with
   |some (.inl i)=>a0 ⟨.v i.1,.v q i.2⟩
   |_=>none)
  |.Tuple es _ _=>(rr.2 sc es).map λa=>⟨.tup a.1,.tup a.2⟩
  |_=>none
noncomputable def rPs1(tb:List Nat)(rr:RP tb)(sc:Nms)(pe:List aT):Option {e:List Pat // CPs tb sc pe e}:=match pe with
 |[]=>a0 ⟨[],.nil⟩
 |e::r=>if q:Be e=a6 then (rr.1 sc e).bind λa=>(rr.2 sc r).map λb=>⟨a.1::b.1,.cons q a.2 b.2⟩ else none
noncomputable def rP(tb:List Nat)(n:Nat):RP tb:=Nat.rec (motive:=λZ=>RP tb) ⟨λZ Z=>none,λZ Z=>none⟩ (λZ r=>⟨rP1 tb r,rPs1 tb r⟩) n
abbrev RS(tb:List Nat):=((sc:Nms)->(ps:eI)->Option {s:S // CSb tb sc ps s})×((sc:Nms)->(ps:List eI)->Option {s:List S // CSbs tb sc ps s})
noncomputable def rS1(tb:List Nat)(n:Nat)(rr:RS tb)(sc:Nms)(ps:eI):Option {s:S // CSb tb sc ps s}:=match ps with
  |.Assign ts e _=>(match ts with
   |[t]=>(match t with
    |.Subscript o i _=>if q:BN i=a6 then ((rE tb n).1 sc o).bind λx=>((rE tb n).1 sc i).bind λy=>((rE tb n).1 sc e).map λz=>⟨.setitem x.1 y.1 z.1,.setitem q x.2 y.2 z.2⟩ else none
    |.Attribute o a _=>((rE tb n).1 sc o).bind λx=>(cAt a).bind λk=>((rE tb n).1 sc e).map λz=>⟨.setattr x.1 k.1 z.1,.setattr x.2 k.2 z.2⟩
    |t=>((rP tb n).1 sc t).bind λx=>((rE tb n).1 sc e).map λz=>⟨.assign x.1 z.1,.assign x.2 z.2⟩)
   |_=>none)
  |.Expr e _=>((rE tb n).1 sc e).map λa=>⟨.expr a.1,.expr a.2⟩
  |.Return (a0 e) _=>((rE tb n).1 sc e).map λa=>⟨.ret a.1,.ret a.2⟩
  |.If c a b _=>((rE tb n).1 sc c).bind λx=>(rr.2 sc a).bind λy=>(rr.2 sc b).map λz=>⟨.ite x.1 y.1 z.1,.ite x.2 y.2 z.2⟩
  |.For t e b [] _=>if q:Bf e=a6 then ((rP tb n).1 sc t).bind λx=>((rE tb n).1 sc e).bind λy=>(rr.2 sc b).map λz=>⟨.for_ x.1 y.1 z.1,.for_ q x.2 y.2 z.2⟩ else none
  |.While c b [] _=>((rE tb n).1 sc c).bind λx=>(rr.2 sc b).map λy=>⟨.while_ x.1 y.1,.while_ x.2 y.2⟩
  |.Raise (a0 e) none _=>((rE tb n).1 sc e).map λa=>⟨.raise a.1,.raise a.2⟩
  |.Try b [.ExceptHandler (a0 t) nm h _] [] [] _=>(rr.2 sc b).bind λx=>((rE tb n).1 sc t).bind λy=>(rr.2 sc h).bind λz=>(match nm with
   |none=>a0 ⟨.try_ x.1 y.1 none z.1,.try0 x.2 y.2 z.2⟩
   |some v=>if q:sc.lookup v=a0 .free then none else (match LX tb sc v with
    |some (.inl i)=>a0 ⟨.try_ x.1 y.1 (a0 i.1) z.1,.try1 x.2 y.2 q i.2 z.2⟩
    |_=>none))
  |.Pass _=>a0 ⟨.pass,.pass⟩
  |_=>none
noncomputable def rSs1(tb:List Nat)(rr:RS tb)(sc:Nms)(ps:List eI):Option {s:List S // CSbs tb sc ps s}:=match ps with
 |[]=>a0 ⟨[],.nil⟩
 |e::r=>(rr.1 sc e).bind λa=>(rr.2 sc r).map λb=>⟨a.1::b.1,.cons a.2 b.2⟩
noncomputable def rS(tb:List Nat)(n:Nat):RS tb:=Nat.rec (motive:=λZ=>RS tb) ⟨λZ Z=>none,λZ Z=>none⟩ (λn r=>⟨rS1 tb n r,rSs1 tb r⟩) n
noncomputable def cSs(tb:List Nat)(n:Nat):(sc:Nms)->(ps:List eI)->Option {s:List S // CSbs tb sc ps s}:=(rS tb n).2
theorem LW(h:(cSs tb n sc pe).map (·.1)=a0 e):CSbs tb sc pe e:=by
 exact X1pr e (aX.mp h) λx Z=>x.2
end
end
section
def TrY(h base:Heap)(e:bg)(cls fl:a8):Prop :=
 ∃oe vs T oT ts,h.get? e=a0 oe/\oe.cls=cls/\oe.data=.fields vs/\(vs[2]?=a0 .none/\oe.dict=aa)/\vs[1]?=a0 (.ref T)/\base.get? T=aa/\T≠e/\h.get? T=a0 oT/\oT.data=.fields ts/\ts[3]?=a0 fl
structure FlyY(base:Heap)(l:List Env)(e:bg)(cls fl:a8)(h:Heap):Prop where
 stays:base.StaysIn h
 new:base.get? e=aa
 frames:h.FunFrames base l
 tr:TrY h base e cls fl
theorem Obj.dict_mapF(o:Obj)(f:Array a8->Array a8):(c5 f o).dict=o.dict:=by
 unfold c5;split<;>rfl
section
variable {M:Model}{A:c6}{E:a8->ag->Prop}{s:ag}
theorem entryY 
  (hfr:A.frames=a0 (env::outer)) (hl:s.heap.FunFrames base (env::outer)) (hf:env.frame=a0 L)
  (he:s.heap.get? e=a0 oe) (hkb:base.StaysIn s.heap) (hen:base.get? e=aa) (hd:oe.data=.fields vs) (h2':vs[2]?=a0 .none/\oe.dict=aa)
  (h:∀h',FlyY base (env::outer) e oe.cls (dP L) h'->s.heap.UpToSlots h'->Q () { s with heap:=h' }) :
  wpAny M A (do let a <- frameOf env;let u <- entryPlaceOf L hadNext;let b <- EntryCells.newEntry head a .none (dP L) .none u;setField (.ref e) 1 b) Q E s:=by
 have h2:=h2'.1;have Y:1<vs.size:=Nat.lt_of_succ_lt (eJ.mp h2).1;have T:e∉(env::outer).filterMap (·.frame):=λhm=>by
  refine An (hl.mem hm) λZ Z0=>X1pp Z0 λo ho O=>?_;rw[he]at ho;injection ho with ho;subst ho;exact O vs hd
 refine ac (wpAny_frameOf_fun hfr hl hf λAd Af=>(ac (wpAny_entryPlaceOf λu B=>?_)));unfold EntryCells.newEntry newFields;refine ac (c8 ?_ (B.sizeOk5 _ _ _ _ _));generalize htb:({ cls:=.type "traceback",dict:=aa,data:=.fields ([head,.ref L,.none,dP L,.none]++(if u.isEmpty then aP 6 bn else u)).toArray }:Obj)=tb;have tbd:tb.data=.fields ([head,.ref L,.none,dP L,.none]++(if u.isEmpty then aP 6 bn else u)).toArray:=by rw[<- htb]
 have he₁:Ad.get? e=a0 oe:=(Af.2.1 e T).trans he;have kb₁:base.StaysIn Ad:=λb o U=>(Af.2.1 b λhm=>by rw[(hl.mem hm).1]at U;exact nS U).trans (hkb b o U)
 have he₂:=aw (h:=Ad) tb he₁;refine fB he₂ hd Y (h _ ?_ ?_)
 all_goals
  have hTe:Ad.objs.size≠e:=eQ (ba he₁);have hd₃:=d5 hd (·.setIfInBounds 1 (bK Ad.objs.size));have he₃:=bZ (c5 (·.setIfInBounds 1 (bK Ad.objs.size))) he₂ (fS hd₃);have y:∀b o,b≠e->Ad.get? b=a0 o->((Ad.push tb).update e (c5 (·.setIfInBounds 1 (bK Ad.objs.size)))).get? b=a0 o:=λb o hbe z=>by
   rw[dn _ _ (dO hbe)];exact aw _ z
  have d:∀b o,s.heap.get? b=a0 o->(∀vs,o.data≠.fields vs)->b≠e:=λb o z O q=>by
   rw[q,he]at z;injection z with z;subst z;exact O vs hd
 .refine⟨λb o U=>y b o (λq=>by rw[q,hen]at U;exact nS U) (kb₁ b o U),hen,hl.of_keeps λb o z O=>?_,?_⟩
  .exact X1p (Af.2.2 b o z) λsl hs=>⟨_,y b _ (d b o z O) hs,rfl⟩
  .have hT₃:=(dn (Ad.push tb) (c5 (·.setIfInBounds 1 (bK Ad.objs.size))) (dO hTe)).trans (aE Ad (by rw[<- htb];rfl))
   refine⟨_,_,Ad.objs.size,_,_,he₃,Obj.cls_mapFields _ _,hd₃,⟨by rwa [Array.getElem?_setIfInBounds_ne (by decide)],(Obj.dict_mapF _ _).trans h2'.2⟩,by simp[Y],kb₁.fresh,hTe,hT₃,tbd,?_⟩
   first|(simp;done)|(rcases B with rfl|⟨_,_,_,_,_,_,_,rfl⟩<;>simp)
 .exact λb o z O=>X1p (Af.2.2 b o z) λsl hs=>⟨sl,y b _ (d b o z O) hs⟩
theorem Jd 
  (d:A.frames=a0 (env::outer)) (Y:s.heap.FunFrames base (env::outer)) (O:env.frame=a0 L)
  (y:s.heap.get? e=a0 oe) (z:base.StaysIn s.heap) (u:base.get? e=aa) (B:oe.data=.fields vs) (U:vs[1]?=a0 .none) (T:vs[2]?=a0 .none/\oe.dict=aa)
  (h:∀h',FlyY base (env::outer) e oe.cls (dP L) h'->s.heap.UpToSlots h'->Q () { s with heap:=h' }):wpAny M A (noteFrame (.ref e) env) Q E s:=by
 unfold noteFrame;simp only[O];refine ac (eK y B U ?_);rw[if_neg (by decide)]
 exact entryY d Y O y z u B T h
theorem Ga 
  (u:A.frames=a0 (env::outer)) (hf:env.frame=a0 L) (x:FlyY base (env::outer) e cls .none s.heap)
  (h:∀h',FlyY base (env::outer) e cls (dP L) h'->s.heap.UpToSlots h'->Q () { s with heap:=h' }):wpAny M A (noteFrame (.ref e) env) Q E s:=by
 obtain⟨Y,hen,hl,oe,vs,T,oT,ts,he,rfl,hd,h2,h1,B,hTe,hT,U,h3⟩:=x;unfold noteFrame;simp only[hf];refine ac (eK he hd h1 ?_);rw[if_pos (show (bK T != bn)=a6 from by simp)]
 refine ac (eK hT U h3 ?_);rw[if_neg (show ¬((bn == dP L)=a6) from by simp[dP])]
 refine ac (fB hT U (eJ.mp h3).1 ?_);have other:∀b,b≠T->(s.heap.update T (c5 (·.setIfInBounds 3 bn))).get? b=s.heap.get? b:=λb z=>dn _ _ (dO z);have d:∀b o,s.heap.get? b=a0 o->(∀vs,o.data≠.fields vs)->b≠T:=λb o z O q=>by
  rw[q,hT]at z;injection z with z;subst z;exact O ts U
 refine entryY u (hl.of_keeps λb o z O=>⟨o,(other b (d b o z O)).trans z,rfl⟩) hf ((other e (dO hTe)).trans he)
  (λb o y=>(other b λq=>by rw[q,B]at y;exact nS y).trans (Y b o y)) hen hd h2
  λh' x1 x2=>h h' x1 λb o z O=>x2 b o ((other b (d b o z O)).trans z) O
theorem FC(x:FlyY base l e cls fl s.heap)
  (h:∀h',FlyY base l e cls .none h'->s.heap.UpToSlots h'->Q () { s with heap:=h' }):wpAny M A (setFlight (.ref e) aa) Q E s:=by
 obtain⟨hkb,hen,hl,oe,vs,T,oT,ts,he,Y,hd,h2,h1,y,hTe,hT,U,h3⟩:=x;have u:3<ts.size:=(eJ.mp h3).1;have other:∀b,b≠T->(s.heap.update T (c5 (·.setIfInBounds 3 ((aa:Option bg).elim bn λf=>dP f)))).get? b=s.heap.get? b :=
  λb z=>dn _ _ (dO z)
 have d:∀b o,s.heap.get? b=a0 o->(∀vs,o.data≠.fields vs)->b≠T:=λb o z O q=>by
  rw[q,hT]at z;injection z with z;subst z;exact O ts U
 unfold setFlight;refine ac (eK he hd h1 ?_);rw[if_pos (show (bK T != bn)=a6 from by simp)]
 refine fB hT U u (h _ ⟨λb o B=>(other b λq=>by rw[q,y]at B;exact nS B).trans (hkb b o B),hen,
  hl.of_keeps λb o z O=>⟨o,(other b (d b o z O)).trans z,rfl⟩,?_⟩ λb o z O=>⟨o.slots,(other b (d b o z O)).trans z⟩)
 exact⟨oe,vs,T,_,_,(other e (dO hTe)).trans he,Y,hd,h2,h1,y,hTe,bZ _ hT (fS (d5 U _)),d5 U _,by simp[u]⟩
theorem FlyY.rest(x:FlyY base (env::outer) e cls fl h):FlyY base outer e cls fl h:=⟨x.stays,x.new,x.frames.2.2,x.tr⟩
theorem Ji 
  (d:A.frames=a0 (env::outer)) (hf:env.frame=a0 L) (z:base.StaysIn h) (hl:h.FunFrames base (env::outer)) (u:Heap.MadeExcOf h s.heap e cls args)
  (hQ:∀h',FlyY base outer e cls .none h'->h.UpToSlots h'->Q () { s with heap:=h' }):wpAny M A (leaving env (.ref e)) Q E s:=by
 refine X1ppp u.there λt he T ht=>?_;have fresh:∀b,h.get? b=aa->base.get? b=aa:=λb Y=>by
  cases hq:base.get? b with|none=>rfl|some y=>have:=z b y hq;rw[Y]at this;exact nS this
 unfold leaving;exact ac (Jd d (hl.of_keeps λb o Y Z=>⟨o,u.keeps b o Y,rfl⟩) hf he (λb o Y=>u.keeps b o (z b o Y)) (fresh e u.new) rfl rfl ⟨rfl,rfl⟩ λh' x1 B=>(FC x1 λO x2 U=>hQ O x2.rest (((io u.keeps).trans B).trans U)))
theorem KM 
  (d:A.frames=a0 (env::outer)) (y:env.frame=a0 L) (x:FlyY base (env::outer) e cls .none s.heap)
  (z:∀h',FlyY base outer e cls .none h'->s.heap.UpToSlots h'->Q () { s with heap:=h' }):wpAny M A (leaving env (.ref e)) Q E s:=by
 unfold leaving;exact ac (Ga d y x λh' x1 B=>(FC x1 λO x2 U=>z O x2.rest (B.trans U)))
end
end
section
theorem FG:entryFor table "proto.unchain"=a0 dE.«proto.unchain»:=entryFor_of_tree (by kernel_rfl)
section
variable {prog:dN}{w:World}{A:c6}{E:a8->ag->Prop}{s:ag}
theorem I3(hh:A.handled=a0 (.ref x))(ne:x≠e)(U:s.heap.get? x=a0 o)(d:o.data=.fields vs)(z:vs[2]?=a0 .none)
  (y:s.heap.get? e=a0 oe) (Y:oe.data=.fields ws) (hz:2<ws.size) (h:E (.ref e) { s with heap:=s.heap.update e (c5 (·.setIfInBounds 2 (.ref x))) }):wpAny (model prog w) A (raiseNew (.ref e):Sem α) Q E s:=by
 unfold raiseNew;refine ac (wpAny_handled ?_);rw[hh];dsimp only;have q:(bK x != bK e)=a6:=by simp[ne]
 rw[if_pos q];refine ac (bh (wpAny_runValue (codeAny_builtin FG ?_)));unfold dE.«proto.unchain»;refine ac (eK U d z ?_);rw[if_pos (show ((bn == bn)=a6) from by decide)]
 refine ac (ai (ai ?_));unfold updateField;refine ac (ac (wpAny_load y ?_));rw[Y];dsimp only;rw[if_pos hz];exact wpAny_update y (wpAny_throw h)
theorem Ka{y left step:Int}{Q:Option a8->ag->Prop}{z:Option bg}(hh:A.handled=z.map bK)(d:∀x,z=a0 x->∃o vs,s.heap.get? x=a0 o/\o.data=.fields vs/\vs[2]?=a0 bn)
  (u:gV s.heap it y left step) (Y:left<=0) (O:∀h',dr it s.heap h'->Q aa { s with heap:=h' }):wpAny (model prog w) A (pyNext (.ref it)) Q E s:=by
 cases z with
 |none=>exact wpAny_pyNext_range_end hh u Y O
 |some x =>
 refine X2ppp (d x rfl) λo vs U hd h2=>?_;have B:s.TypeIs (.ref it) "range_iterator":=⟨_,u,rfl⟩;unfold pyNext
 refine ac (eX (fi (name:=ct "__next__") B F.slot_range_iterator_next
  (cX F.slot_range_iterator_next B F.entry_range_iterator_next ?_ (F.args_range_iterator_next_1 _))))
 show wpAny _ _ (field (.ref it) 0 >>= _) _ _ s;refine ac (eK u rfl (x:=dP y) rfl ?_);show wpAny _ _ (field (.ref it) 1 >>= _) _ _ s;refine ac (eK u rfl (x:=dP left) rfl ?_);show wpAny _ _ (field (.ref it) 2 >>= _) _ _ s;refine ac (eK u rfl (x:=dP step) rfl ?_);show wpAny _ _ (if left<=0 then _ else _) _ _ s;rw[if_pos Y];refine ac (fW (ac ?_));show wpAny _ _ (newExc (.type "StopIteration") [] >>= _) _ _ _;refine ac ?_;simp only[newExc,newTuple];refine ac (c8 ?_ (by size_fits))
 refine ac (m:=gF _ _) (wpAny_of_eq (a:=bn) (by first|rfl|(simp only[gF];rfl)) (c8 ?_ (by size_fits)))
 have lx:x<s.heap.objs.size:=ba U;refine I3 (x:=x) (o:=o) (vs:=vs) (hh:=hh) ?_ (aw _ (aw _ U)) hd h2 (aE _ rfl) rfl (bt rfl) ?_
 .rw[cN];exact bQ (cO lx)
 refine ac (dQ (T := "StopIteration") (b:=a6) ⟨_,bZ _ (aE _ rfl) rfl,rfl⟩ isSubtype_stop (ai (O _ λb ob ne e=>?_)));have lb:b<s.heap.objs.size:=ba e;rw[dn _ _ (by rw[cN];exact eQ (cO lb))]
 exact aw _ (aw _ e)
end
end
section
open PySem PyProof.Rows
structure Room(S:Sta)(N:bg->Prop)(k:Nat)(A:c6):Prop where
 hh:A.handled=S.hx.map bK
 fr:∃l,A.frames=a0 l/\∀e∈l,e.scope.kind≠.module/\∃L,e.frame=a0 L/\N L/\S.g.get? L=aa
 dp:A.depth+2 * k<900
 un:A.units+20 * k<9000
theorem Room.quiet{S:Sta}{N:bg->Prop}{k:Nat}{A:c6}(r:Room S N k A)(hq:S.hx=aa):A.handled=aa:=r.hh.trans (by rw[hq];rfl)
theorem Room.wide{S:Sta}{N d:bg->Prop}{k:Nat}{A:c6}(r:Room S N k A)(h:∀a,N a->d a):Room S d k A :=
 ⟨r.hh,(by refine X1pp r.fr λl e q=>?_;exact⟨l,e,λev y=>by refine An (q ev y) λO u=>?_;refine X1ppp u λL z Y B=>?_;exact⟨O,L,z,h L Y,B⟩⟩),r.dp,r.un⟩
structure Fx(S:Sta) where
 A:c6
 tb:List Nat
 env:Env
 b:L0×ag
 N:bg->Prop
 k:Nat
 room:Room S N k A
 fk:env.scope.kind=.function
 fg:env.globals=bY
 fb:env.builtins=builtinsNs
 fc:∀x,env.kindOf x=a0 .cell->∃c,env.cells.lookup x=a0 c
variable {S:Sta}
def Frm(A:c6)(a:bg):Prop:=∃l,A.frames=a0 l/\∃e∈l,e.frame=a0 a
abbrev Fx.P(F:Fx S):bg->Prop:=Frm F.A
abbrev Fx.St(F:Fx S):=Internal.St S F.tb F.env F.N F.P F.b
abbrev Fx.D(F:Fx S)(V:L0):bg->Prop:=DN F.N V
abbrev Fx.O(F:Fx S):bg->Prop:=Own F.env
noncomputable abbrev Fx.sc(F:Fx S):Nms:=F.env.scope.names
inductive PW(F:Fx S)(m:Nat->Option AV)(V:L0)(s:ag){α:Type}(P:α->L0->ag->Prop)(a:α)(s':ag):Prop
 |mk (V':L0)(st:L2 F.P F.O V s V' s')(h:F.St m V' s')(p:P a V' s'):PW F m V s P a s'
inductive PV(F:Fx S)(Q:AV->L0->Prop)(v:a8)(V':L0)(s':ag):Prop
 |mk (av:AV)(r:Rep S.cv s'.heap (F.D V') av v)(q:Q av V'):PV F Q v V' s'
inductive PVs(F:Fx S)(Q:List AV->L0->Prop)(vs:List a8)(V':L0)(s':ag):Prop
 |mk (avs:List AV)(r:RepL S.cv s'.heap (F.D V') avs vs)(q:Q avs V'):PVs F Q vs V' s'
def W(F:Fx S)(m:Nat->Option AV)(V:L0)(s:ag){α:Type}(t:Sem α)(P:α->L0->ag->Prop)(X:a8->ag->Prop):Prop :=
 wpAny (model S.prog S.w) F.A t (PW F m V s P) X s
abbrev VT(F:Fx S)(m:Nat->Option AV)(V:L0)(s:ag)(t:Sem a8)(Q:AV->L0->Prop)(X:a8->ag->Prop):Prop :=
 W F m V s t (PV F Q) X
section
variable {F:Fx S}{m:Nat->Option AV}{V:L0}{s:ag}{α β:Type}{X:a8->ag->Prop}
theorem W.mono(h:W F m V s t P X)(k:∀a V' s',L2 F.P F.O V s V' s'->F.St m V' s'->P a V' s'->P' a V' s'):W F m V s t P' X :=
 aU h (λa s' ⟨V',st,h1,h2⟩=>⟨V',st,h1,k a V' s' st h1 h2⟩) λZ Z e=>e
theorem W.out(h:W F m V s t P X)(k:∀a V' s',L2 F.P F.O V s V' s'->F.St m V' s'->P a V' s'->Q a s'):wpAny (model S.prog S.w) F.A t Q X s :=
 aU h (λa s' ⟨V',st,h1,h2⟩=>k a V' s' st h1 h2) λZ Z e=>e
theorem W.later(h:W F m V s t P X)(st:L2 F.P F.O AG Ak V s):wpAny (model S.prog S.w) F.A t (PW F m AG Ak P) X s :=
 aU h (λ_ _ ⟨V',st',h1,h2⟩=>⟨V',st.trans st',h1,h2⟩) λZ Z e=>e
end
def ET(F:Fx S)(m:Nat->Option AV)(V:L0)(e:E)(Q:AV->L0->Prop)(X:a8->ag->Prop):Prop :=
 ∀pe,CE F.tb F.sc pe e->∀s,F.St m V s->VT F m V s (eval pe F.env) Q X
def TT(F:Fx S)(m:Nat->Option AV)(V:L0)(e:E)(Q:Bool->L0->Prop)(X:a8->ag->Prop):Prop :=
 ∀pe,CE F.tb F.sc pe e->∀s,F.St m V s->W F m V s (isTrue pe F.env (eval pe F.env)) (λb V' Z=>Q b V') X
def EsT(F:Fx S)(m:Nat->Option AV)(V:L0)(es:List E)(Q:List AV->L0->Prop)(X:a8->ag->Prop):Prop :=
 ∀pes pos,CEs F.tb F.sc pes es->∀s,F.St m V s ->
  W F m V s (spliced (backTo pos (fE pes F.env))) (PVs F Q) X
section
variable {tb:List Nat}{env:Env}{N P:bg->Prop}{b:L0×ag}{m:Nat->Option AV}{V V':L0}{s s':ag}
theorem Inv.tok(x:Inv S N V s)(t:Nat):Inv S N V { s with toks:=t }:=⟨x.keep,x.gens,x.drawn,x.os,x.σg,x.σN,x.Nin,x.rep⟩
theorem St.tok(x:Internal.St S tb env N P b m V s)(t:Nat):Internal.St S tb env N P b m V { s with toks:=t }:=⟨x.inv.tok t,x.loc,⟨x.frm.ext,x.frm.frm,x.frm.dom,x.frm.there⟩,x.pN,x.new,x.own,x.gb⟩
theorem Mm.ext(x:Ext D h h')(T:∀b,D' b->D b\/h.get? b=aa)(r:Mm cv h D o a)(k:∀ob,h.get? a=a0 ob->h'.get? a=a0 ob):Mm cv h' D' o a:=by
 induction r with|list e r=>exact .list (k _ e) (r.ext x T)|dict e u n r=>exact .dict (k _ e) u n (r.ext x T)|inst e n=>exact .inst (k _ e) n|attrs e r=>exact .attrs (k _ e) (r.ext x T)
theorem Inv.dom_there(x:Inv S N V s)(d:Dom V a):∃ob,s.heap.get? a=a0 ob:=by
 cases e:V a with|none=>exact absurd e d|some o=>refine X1pp ((x.rep a o e).there) λob h Z=>?_;exact⟨ob,h⟩
theorem Inv.not_dom(x:Inv S N V s)(e:s.heap.get? a=aa):¬Dom V a:=λd=>by refine X1p (x.dom_there d) λy h=>?_;rw[e]at h;exact nS h
theorem Inv.not_D(x:Inv S N V s)(e:s.heap.get? a=aa):¬DN N V a:=λd=>d.elim (x.not_dom e) λd=>by refine X1pp (x.Nin a d) λy h Z=>?_;rw[e]at h;exact nS h
theorem Inv.not_g(x:Inv S N V s)(e:s.heap.get? a=aa):S.g.get? a=aa:=by
 cases q:S.g.get? a with|none=>rfl|some o=>have:=x.keep a o q;rw[e]at this;exact nS this
theorem Inv.not_sm(x:Inv S N V s)(e:s.heap.get? a=aa):(a == cG)=a7:=by
 cases q:a == cG with
 |false=>rfl
 |true =>
  refine X1p S.sm λo h=>?_
  have:=x.keep _ _ h
  rw[<- eq_of_beq q,e]at this;exact nS this
theorem Loc.step(l:Loc cv g tb env m N V s.heap)(x:L2 P' noO V s V' s')(hP:∀a,P' a->N a):Loc cv g tb env m N V' s'.heap:=by
 obtain⟨mc,cm,n,c,o,ap,cl,r⟩:=l;have B:∀a,Own env a->∃ob,s.heap.get? a=a0 ob:=by
  intro a ha
  rcases ha with rfl|⟨y,u⟩
  .refine X3pp n λob Z Z e Z=>?_;exact⟨ob,e⟩
  .refine X1pp (c y a u) λob e Z=>?_;exact⟨ob,e⟩
 have U:s'.heap.Ns env.locals mc:=by
  exact X3ppp n λob es ep e z q=>X1pppp (x.there' e (o _ (.inl rfl)).1 id) λT O Z d' Z=>⟨T,es,ep,O,d'.trans z,q⟩
 refine⟨mc,cm,U,λy cc u=>?_,λa ha=>⟨λd=>?_,(o a ha).2⟩,ap,cl,λy i av hi hm=>?_⟩
 .exact X1pp (c y cc u) λob e z=>X1pppp (x.there' e (o _ (.inr ⟨y,u⟩)).1 id) λT O Z d' Z=>⟨T,O,d'.trans z⟩
 .rcases x.dom a d with q|q
  .exact(o a ha).1 q
  .refine X1p (B a ha) λob e=>?_;rw[q]at e;exact nS e
 .exact LocAt.map (r y i av hi hm) (λh2=>h2.step x (λZ h=>h.elim) hP) (λZ Y=>Y) (λZ Y=>Y)
theorem Loc.weak(l:Loc cv g tb env m N V h)(T:∀i av,m' i=a0 av->m i=a0 av):Loc cv g tb env m' N V h:=by
 obtain⟨u,U,n,c,o,Y,cl,r⟩:=l;exact⟨u,U,n,c,o,Y,cl,λx i av hi h=>r x i av hi (T i av h)⟩
theorem St.to(x:Internal.St S tb env N P b m V s)(st:L2 P' noO V s V' s')(i:Inv S N V' s')(d:∀a,P' a->P a):Internal.St S tb env N P b m V' s':=⟨i,x.loc.step st (λa h=>x.pN a (d a h)),x.frm.trans (st.wide d),x.pN,x.new,x.own,x.gb⟩
theorem Inv.grow(x:Inv S N V s)(k:∀a o,s.heap.get? a=a0 o->h'.get? a=a0 o)(tk:Nat):Inv S N V { s with heap:=h',toks:=tk }/\L2 noO noO V s V { s with heap:=h',toks:=tk }:=by
 have st:L2 noO noO V s V { s with heap:=h',toks:=tk }:=L2.of_keeps k λZ h=>.inl h
 exact⟨⟨λa o e=>k a o (x.keep a o e),x.gens,x.drawn,x.os,x.σg,x.σN,λa h=>by refine X1pp (x.Nin a h) λo e f=>?_;exact⟨o,k a o e,f⟩,λa o e=>(x.rep a o e).ext (Ext.of_keeps k) (λZ h=>.inl h) (k a)⟩,st⟩
theorem St.grow(x:Internal.St S tb env N P b m V s)(k:∀a o,s.heap.get? a=a0 o->h'.get? a=a0 o)(tk:Nat):Internal.St S tb env N P b m V { s with heap:=h',toks:=tk }/\L2 noO noO V s V { s with heap:=h',toks:=tk }:=by
 exact An (x.inv.grow k tk) λi st=>⟨x.to st i (λZ h=>h.elim),st⟩
theorem A6(h:Dom (V.set a o) c):c=a\/Dom V c:=by
 by_cases e:c=a
 .exact .inl e
 .right;unfold Dom L0.set at h;rw[if_neg e]at h;exact h
theorem Inv.new(x:Inv S N V s)(k:∀a o,s.heap.get? a=a0 o->h'.get? a=a0 o)(tk:Nat)(ha:s.heap.get? a=aa) 
  (r:Mm S.cv h' (DN N (V.set a o)) o a):Inv S N (V.set a o) { s with heap:=h',toks:=tk }/\L2 noO noO V s (V.set a o) { s with heap:=h',toks:=tk }:=by
 have st:L2 noO noO V s (V.set a o) { s with heap:=h',toks:=tk }:=L2.of_keeps k λc h=>(A6 h).elim (λq=>.inr (q▸ha)) .inl
 refine⟨⟨λa o e=>k a o (x.keep a o e),x.gens,x.drawn,x.os,λc h=>(st.dom c h).elim (x.σg c) x.not_g,λc h=>(A6 h).elim (λq n=>?_) (x.σN c),λa h=>?_,λc z e=>?_⟩,st⟩
 .clear r st h;subst q;refine X1pp (x.Nin c n) λy e Z=>?_;rw[ha]at e;exact nS e
 .refine X1pp (x.Nin a h) λo e f=>?_;exact⟨o,k a o e,f⟩
 .by_cases q:c=a
  .clear ha st;subst q;rw[L0.set_self]at e;obtain rfl:=ae e;exact r
  .rw[L0.set_ne _ _ q]at e
   exact(x.rep c z e).ext (Ext.of_keeps k) (λd h=>h.elim (λh=>(A6 h).elim (λq=>.inr (q▸ha)) λq=>.inl (.inl q)) λh=>.inl (.inr h)) (k c)
theorem St.new'(x:Internal.St S tb env N P b m V s)(k:∀a o,s.heap.get? a=a0 o->h'.get? a=a0 o)(tk:Nat)(ha:s.heap.get? a=aa) 
  (r:Mm S.cv h' (DN N (V.set a o)) o a):Internal.St S tb env N P b m (V.set a o) { s with heap:=h',toks:=tk }/\L2 noO noO V s (V.set a o) { s with heap:=h',toks:=tk }:=by
 exact An (x.inv.new k tk ha r) λi st=>⟨x.to st i (λZ h=>h.elim),st⟩
theorem Inv.upd(x:Inv S N V s)(y:Dom V a)(k:∀c o,c≠a->s.heap.get? c=a0 o->h'.get? c=a0 o)(tk:Nat) 
  (r:Mm S.cv h' (DN N (V.set a o)) o a):Inv S N (V.set a o) { s with heap:=h',toks:=tk }/\L2 noO noO V s (V.set a o) { s with heap:=h',toks:=tk }:=by
 have dd:∀c,Dom (V.set a o) c->Dom V c:=λc h=>(A6 h).elim (λq=>q▸y) id;have U:Ext (DN N V) s.heap h':=Ext.of_but λc z d e=>k c z (λq=>d (q▸.inl y)) e;have st:L2 noO noO V s (V.set a o) { s with heap:=h',toks:=tk }:=L2.of_but (λc z d Z e=>k c z (λq=>d (q▸y)) e) (λc h=>.inl (dd c h)) (λc z e=>by
  by_cases q:c=a
  .clear y k dd;subst q;refine X1pp r.there λY h Z=>?_;exact⟨Y,h⟩
  .exact⟨z,k c z q e⟩)
 refine⟨⟨λc z e=>k c z (λq=>?_) (x.keep c z e),x.gens,x.drawn,x.os,λc h=>x.σg c (dd c h),λc h=>x.σN c (dd c h),λc h=>?_,λc z e=>?_⟩,st⟩
 .clear k r dd st;subst q;rw[x.σg c y]at e;exact nS e
 .refine X1pp (x.Nin c h) λo e f=>?_;exact⟨o,k c o (λq=>x.σN a y (q▸h)) e,f⟩
 .by_cases q:c=a
  .clear y k dd st;subst q;rw[L0.set_self]at e;obtain rfl:=ae e;exact r
  .rw[L0.set_ne _ _ q]at e
   exact(x.rep c z e).ext U (λd h=>.inl (h.imp (dd d) id)) (k c · q)
theorem St.upd(x:Internal.St S tb env N P b m V s)(y:Dom V a)(k:∀c o,c≠a->s.heap.get? c=a0 o->h'.get? c=a0 o)(tk:Nat) 
  (r:Mm S.cv h' (DN N (V.set a o)) o a):Internal.St S tb env N P b m (V.set a o) { s with heap:=h',toks:=tk }/\L2 noO noO V s (V.set a o) { s with heap:=h',toks:=tk }:=by
 exact An (x.inv.upd y k tk r) λi st=>⟨x.to st i (λZ h=>h.elim),st⟩
theorem Inv.drop(x:Inv S N V s)(h:∀a o,V' a=a0 o->V a=a0 o):Inv S N V' s/\L2 noO noO V s V' s:=by
 have dd:∀a,Dom V' a->Dom V a:=λa d=>by
  cases e:V' a with|none=>exact absurd e d|some o=>unfold Dom;rw[h a o e];simp
 have st:L2 noO noO V s V' s:=L2.of_keeps (λZ Z e=>e) λa d=>.inl (dd a d);exact⟨⟨x.keep,x.gens,x.drawn,x.os,λa d=>x.σg a (dd a d),λa d=>x.σN a (dd a d),x.Nin,λa o e=>(x.rep a o (h a o e)).ext (Ext.refl _ _) (λb h=>.inl (h.imp (dd b) id)) λZ q=>q⟩,st⟩
theorem St.drop(x:Internal.St S tb env N P b m V s)(h:∀a o,V' a=a0 o->V a=a0 o):Internal.St S tb env N P b m V' s/\L2 noO noO V s V' s:=by
 exact An (x.inv.drop h) λi st=>⟨x.to st i (λZ h=>h.elim),st⟩
theorem St.weak(x:Internal.St S tb env N P b m V s)(h:∀i av,m' i=a0 av->m i=a0 av):Internal.St S tb env N P b m' V s:=⟨x.inv,x.loc.weak h,x.frm,x.pN,x.new,x.own,x.gb⟩
end
theorem L2.any(x:L2 noO noO V s V' s'):L2 P O V s V' s':=(x.mono λZ h=>h.elim).wide λZ h=>h.elim
def Fresh(V:L0)(o:Mg)(fz:AV)(Q:AV->L0->Prop):Prop:=Q fz V\/∃i,∀a,¬Dom V a->Q (.loc a i) (V.set a o)
section
variable {F:Fx S}{m:Nat->Option AV}{V:L0}{X:a8->ag->Prop}{s:ag}{Q:AV->L0->Prop}
theorem Rep.st(r:Rep S.cv s.heap (F.D V) av v)(x:L2 F.P F.O V s V' s')(h:F.St m V' s'):Rep S.cv s'.heap (F.D V') av v:=Internal.Rep.step x h.own h.pN r
theorem RepL.st(r:RepL S.cv s.heap (F.D V) av v)(x:L2 F.P F.O V s V' s')(h:F.St m V' s'):RepL S.cv s'.heap (F.D V') av v:=Internal.RepL.step x h.own h.pN r
theorem now(hs:F.St m V s)(r:Rep S.cv s.heap (F.D V) av v)(q:Q av V) :
  PW F m V s (PV F Q) v s:=⟨V,L2.refl _ _ _ _,hs,av,r,q⟩
theorem Bm(t:Nat)(hs:F.St m V s)(r:Rep S.cv s.heap (F.D V) av v)(q:Q av V) :
  PW F m V s (PV F Q) v { s with toks:=t }:=⟨V,L2.toks _ _ _ _ _,hs.tok t,av,r,q⟩
theorem J0(ha:s.heap.get? a=aa):∀b,DN N (V.set a o) b->DN N V b\/s.heap.get? b=aa :=
 λZ h=>h.elim (λh=>(A6 h).elim (λq=>.inr (q▸ha)) λq=>.inl (.inl q)) λh=>.inl (.inr h)
theorem BG(hs:F.St m V s)(k:∀b o,s.heap.get? b=a0 o->h'.get? b=a0 o)(ha:s.heap.get? a=aa)
  (e:h'.get? a=a0 (AH vs.toArray n)) (r:RepL S.cv s.heap (F.D V) l vs) (q:Fresh V (.list l) (.list l) Q) :
  PW F m V s (PV F Q) (.ref a) { s with heap:=h',toks:=tk }:=by
 rcases q with q|⟨i,q⟩
 .exact An (hs.grow k tk) λY st=>⟨V,st.any,Y,_,.list e (hs.inv.not_D ha) (r.st st.any Y),q⟩
 .exact An (hs.new' k tk ha (o:=.list l) (.list e (r.ext (Ext.of_keeps k) (J0 ha)))) λY st=>⟨_,st.any,Y,_,.loc a i,q a (hs.inv.not_dom ha)⟩
theorem Df(hs:F.St m V s)(k:∀b o,s.heap.get? b=a0 o->h'.get? b=a0 o)(ha:s.heap.get? a=aa)
  (e:h'.get? a=a0 (AU es.toArray n)) (y:(l.map (·.1)).Nodup) (r:RepD S.cv s.heap (F.D V) l es) (q:Fresh V (.dict l) (.dict l) Q) :
  PW F m V s (PV F Q) (.ref a) { s with heap:=h',toks:=tk }:=by
 rcases q with q|⟨i,q⟩
 .exact An (hs.grow k tk) λY st=>⟨V,st.any,Y,_,.dict e (hs.inv.not_D ha) (hs.inv.not_sm ha) y (r.step st.any Y.own Y.pN),q⟩
 .exact An (hs.new' k tk ha (o:=.dict l) (.dict e (hs.inv.not_sm ha) y (r.ext (Ext.of_keeps k) (J0 ha)))) λY st=>⟨_,st.any,Y,_,.loc a i,q a (hs.inv.not_dom ha)⟩
theorem Ay(h:Heap):h.get? h.objs.size=aa:=by
 cases q:h.get? h.objs.size with|none=>rfl|some o=>exact absurd (ba q) (Nat.lt_irrefl _)
theorem Ax(h:Heap)(o:Obj):∀b ob,h.get? b=a0 ob->(h.push o).get? b=a0 ob:=λZ Z e=>aw o e
theorem Kv(hs:F.St m V s)(k:∀b o,s.heap.get? b=a0 o->h'.get? b=a0 o)(ha:s.heap.get? a=aa)
  (e:h'.get? a=a0 (BD vs.toArray n)) (r:RepL S.cv s.heap (F.D V) l vs) (q:Q (.tup l) V) :
  PW F m V s (PV F Q) (.ref a) { s with heap:=h',toks:=tk }:=by
 exact An (hs.grow k tk) λY st=>⟨V,st.any,Y,_,.tup e (hs.inv.not_D ha) (r.st st.any Y),q⟩
end
end
section
open PySem PyProof.Rows
variable {S:Sta}
section
variable {F:Fx S}{m:Nat->Option AV}{V:L0}{X:a8->ag->Prop}{Q:AV->L0->Prop}
theorem ET.mono(h:ET F m V e Q X)(k:∀a V,Q a V->Q' a V):ET F m V e Q' X :=
 λpe d s hs=>(h pe d s hs).mono λ_ _ _ _ _ ⟨av,r,q⟩=>⟨av,r,k _ _ q⟩
theorem TT.mono{Q z:Bool->L0->Prop}(h:TT F m V e Q X)(k:∀a V,Q a V->z a V):TT F m V e z X :=
 λpe d s hs=>(h pe d s hs).mono λZ Z Z Z Z q=>k _ _ q
theorem ET.none(h:Q .none V):ET F m V .none Q X:=by
 intro pe d s hs;refine X2l pe d.inv λZ Z=>?_;exact wpAny_Constant_none (now hs .none h)
theorem ET.bool(h:Q (.bool b) V):ET F m V (.bool b) Q X:=by
 intro pe d s hs;refine X2l pe d.inv λZ Z=>?_;exact wpAny_Constant_bool (now hs (.bool b) h)
theorem ET.int(h:Q (.int i) V):ET F m V (.int i) Q X:=by
 intro pe d s hs;refine X2l pe d.inv λZ Z=>?_;exact wpAny_Constant_int (Bm _ hs (.int i _) h)
theorem ET.str(h:Q (.str x) V):ET F m V (.str x) Q X:=by
 intro pe d s hs;refine X2l pe d.inv λZ Z=>?_;exact wpAny_Constant_str (Bm _ hs (.str x _) h)
theorem load_v(u:IsV F.tb F.sc x i)(T:m i=a0 av)(hs:F.St m V s)(h:∀v,Rep S.cv s.heap (F.D V) av v->Q' v s)
  : wpAny (model S.prog S.w) F.A (loadName F.env x) Q' X s:=by
 obtain⟨y,U,n,c,_,O,_,r⟩:=hs.loc
 have:=r x i av u.ix T
 have kd:F.env.kindOf x=F.sc.lookup x:=rfl
 rcases u.kind with q|q|q
 .rw[kd,q]at this
  exact X1pp this λv Y z=>wpAny_loadName_local F.fk (kd.trans q) n Y (h v z)
 .rw[kd,q]at this
  refine X2ppp this λv d h0 Y z=>?_
  have:=c x d h0
  rw[Y]at this;exact wpAny_loadName_cell F.fk (kd.trans q) h0 this (h v z)
 .rw[kd,q]at this
  refine X2ppp this λv d h0 Y z=>?_
  have:=c x d h0
  rw[Y]at this;exact wpAny_loadName_free F.fk (kd.trans q) h0 this (h v z) (Ko u.ok)
theorem ET.v(T:m i=a0 av)(h:Q av V):ET F m V (.v i) Q X:=by
 exact λpe d s hs=>X2lp pe d.inv λZ Z u=>wpAny_Name (load_v u T hs λv r=>now hs r h) (A9 u.ok)
structure Glob(S:Sta)(i:Nat)(v:a8):Prop where
 at_:∀x,ixS GT x=a0 i->S.mg x=a0 v\/(S.mg x=aa/\S.mb x=a0 v)
theorem Dp(u:IsG F.sc x i)(T:Glob S i v)(hs:F.St m V s)(h:Q' v s):wpAny (model S.prog S.w) A (eval (.Name x pos) F.env) Q' X s:=by
 have ng:s.heap.Ns F.env.globals S.mg:=by rw[F.fg];exact S.ng.keeps hs.inv.keep
 have nb:s.heap.Ns F.env.builtins S.mb:=by rw[F.fb];exact S.nb.keeps hs.inv.keep
 rcases T.at_ x u.ix with q|⟨q,d⟩
 .exact gG F.fk u.kind (Calls.loadGlobal_global ng q h) (A9 u.ok)
 .exact gG F.fk u.kind (Calls.loadGlobal_builtin ng q nb d h) (A9 u.ok)
theorem ET.g_int(d:Glob S i (.int n t))(h:Q (.int n) V):ET F m V (.g i) Q X:=by
 exact λpe y s hs=>X2lp pe y.inv λZ Z u=>Dp u d hs (now hs (.int n t) h)
theorem EsT.nil{Q:List AV->L0->Prop}(h:Q [] V):EsT F m V [] Q X:=by
 intro B pos d s hs;obtain rfl:=d.inv_nil;exact wpAny_items_nil ⟨V,L2.refl _ _ _ _,hs,[],.nil,h⟩
theorem AW(h:Be e=a6):fE (e::r) env=(a7,eval e env)::fE r env:=by
 cases e<;>first|rfl|exact nF h
theorem EsT.cons{Q:List AV->L0->Prop}(h:ET F m V e (λa Aa=>EsT F m Aa r (λas z=>Q (a::as) z) X) X):EsT F m V (e::r) Q X:=by
 refine λB pos hc s hs=>X2lppp B hc.inv λZ Z O d y=>wpAny_items_cons ((h _ d s hs).out ?_) (AW O);intro va Aa Ac Ai Ad u;obtain⟨a,Y,AQ⟩:=u;refine(AQ _ _ y Ac Ad).out ?_;intro vs z Aj T U u;obtain⟨as,rs,Bu⟩:=u;exact⟨z,Ai.trans T,U,a::as,.cons (Y.st T U) rs,Bu⟩
theorem RepL.length(r:RepL cv h D l vs):vs.length=l.length:=by
 induction l generalizing vs with|nil=>rw[show vs=[] from r.inv];rfl|cons x l y=>refine X2lpp vs r.inv λv z Z b=>?_;exact congrArg fF (y b)
abbrev big:Nat:=1000000
theorem Bn(h:n<=big):n<=sizeLine:=by unfold big at h;rw[d0];exact lin [n] [] (.b V0 A7) [.b V0 Aw] rfl h
theorem ET.tup(h:EsT F m V es (λl V'=>l.length<=big/\Q (.tup l) V') X):ET F m V (.tup es) Q X:=by
 refine λpe d s hs=>X3lp pe d.inv λZ Z Z y=>wpAny_Tuple ((h _ _ y s hs).out ?_);intro vs Aa Ac U B u;obtain⟨l,r,hz,q⟩:=u;refine⟨Bn (by rwa [r.length]),?_⟩
 obtain⟨V',st,z,O⟩:=Kv (tk:=Ac.toks) B (Ax _ _) (Ay _) (aE _ rfl) r q;exact⟨V',U.trans st,z,O⟩
theorem ET.list(h:EsT F m V es (λl V'=>l.length<=big/\Fresh V' (.list l) (.list l) Q) X):ET F m V (.list es) Q X:=by
 refine λpe d s hs=>X2lp pe d.inv λZ Z y=>wpAny_List ((h _ _ y s hs).out ?_);intro vs Aa Ac U B u;obtain⟨l,r,hz,q⟩:=u;refine⟨Bn (by rwa [r.length]),?_⟩
 obtain⟨V',st,z,O⟩:=BG (tk:=Ac.toks) B (Ax _ _) (Ay _) (aE _ rfl) r q;exact⟨V',U.trans st,z,O⟩
def BT(F:Fx S)(m:Nat->Option AV)(V:L0)(op:Operator)(a b:AV)(Q:AV->L0->Prop)(X:a8->ag->Prop):Prop :=
 ∀va vb s,F.St m V s->Rep S.cv s.heap (F.D V) a va->Rep S.cv s.heap (F.D V) b vb->VT F m V s (binaryOp op va vb) Q X
def KT(F:Fx S)(m:Nat->Option AV)(V:L0)(op:CmpOp)(a b:AV)(Q:Bool->L0->Prop)(X:a8->ag->Prop):Prop :=
 ∀va vb s,F.St m V s->Rep S.cv s.heap (F.D V) a va->Rep S.cv s.heap (F.D V) b vb->W F m V s (compareOp op va vb) (λv V' Z=>∃c,v=.bool c/\Q c V') X
theorem ET.bin(h:ET F m V l (λa Aa=>ET F m Aa r (λb z=>BT F m z op a b Q X) X) X):ET F m V (.bin op l r) Q X:=by
 refine λpe hc s hs=>X3lpp pe hc.inv λZ Z Z hl d=>wpAny_BinOp ((h _ hl s hs).out ?_);intro Y Aa Ac Ai Ad u;obtain⟨a,B,AQ⟩:=u;refine(AQ _ d Ac Ad).out ?_;intro y z Aj T U u;obtain⟨b,O,Bu⟩:=u;exact(Bu Y y Aj U (B.st T U) O).later (Ai.trans T)
theorem BT.add(h:Q (.int (a+b)) V):BT F m V .Add (.int a) (.int b) Q X:=by
 intro Y y s hs u O;refine X1l Y u.inv λZ=>?_;refine X1l y O.inv λZ=>?_;exact add_int (Bm _ hs (.int _ _) h)
theorem BT.sub(h:Q (.int (a - b)) V):BT F m V .Sub (.int a) (.int b) Q X:=by
 intro Y y s hs u O;refine X1l Y u.inv λZ=>?_;refine X1l y O.inv λZ=>?_;exact sub_int (Bm _ hs (.int _ _) h)
theorem BT.mul(T:IntMulOk a b)(h:Q (.int (a * b)) V):BT F m V .Mult (.int a) (.int b) Q X:=by
 intro Y y s hs u O;refine X1l Y u.inv λZ=>?_;refine X1l y O.inv λZ=>?_;exact mul_int (Bm _ hs (.int _ _) h) T
theorem BT.mod(z:b≠0)(h:Q (.int (a.fmod b)) V):BT F m V .Mod (.int a) (.int b) Q X:=by
 intro Y y s hs u O;refine X1l Y u.inv λZ=>?_;refine X1l y O.inv λZ=>?_;exact mod_int z (Bm _ hs (.int _ _) h)
theorem BT.div(z:b≠0)(U:b.natAbs<1073741824)(h:Q (.int (a.fdiv b)) V):BT F m V .FloorDiv (.int a) (.int b) Q X:=by
 intro Y y s hs u O;refine X1l Y u.inv λZ=>?_;refine X1l y O.inv λZ=>?_;exact floordiv_int z (Bm _ hs (.int _ _) h) (.inl (PyProof.noPylong_small U))
theorem BT.addStr(hz:a.length+b.length<=big)(h:Q (.str (a++b)) V):BT F m V .Add (.str a) (.str b) Q X:=by
 intro Y y s hs u O;refine X1l Y u.inv λZ=>?_;refine X1l y O.inv λZ=>?_;exact add_str (λd tk=>Bm tk hs (.str _ _) h) (Bn hz)
theorem BT.mulStr(U:MulOk a n)(h:Q (.str (d6 a n)) V):BT F m V .Mult (.str a) (.int n) Q X:=by
 intro Y y s hs u O;refine X1l Y u.inv λZ=>?_;refine X1l y O.inv λZ=>?_;exact SB.mul U (λd tk=>Bm tk hs (.str _ _) h)
end
end
section
open PySem PyProof.Rows
variable {S:Sta}
noncomputable def dl(V:L0):AV->Option (List AV)
 |.list l=>a0 l
 |.loc a _=>(V a).bind Mg.list?
 |_=>aa
noncomputable def dd(V:L0):AV->Option (List (Ah×AV))
 |.dict l=>a0 l
 |.loc a _=>(V a).bind Mg.dict?
 |_=>aa
theorem dl_list(V:L0)(l:List AV):dl V (.list l)=a0 l:=rfl
theorem B1(h:V a=a0 (.list l)):dl V (.loc a i)=a0 l:=by show (V a).bind _=_;rw[h];rfl
theorem CV(h:V a=a0 (.dict l)):dd V (.loc a i)=a0 l:=by show (V a).bind _=_;rw[h];rfl
section
variable {N:bg->Prop}{V:L0}{s:ag}
theorem Rep.lst(r:Rep S.cv s.heap (DN N V) a v)(hs:Inv S N V s)(h:dl V a=a0 l) :
  ∃ad vs n,v=.ref ad/\s.heap.get? ad=a0 (AH (aA vs) n)/\RepL S.cv s.heap (DN N V) l vs:=by
 cases a with
 |list l'=>refine X3pppp r.inv λa b c e f Z r=>?_;exact⟨a,b,c,e,f,ae h▸r⟩
 |loc ad z =>
  refine X1pp (AC (show (V ad).bind Mg.list?=a0 l from h)) λo e h=>?_
  obtain rfl:=Mg.list?_out h;exact X2pp ((hs.rep ad _ e).inv) λvs n g q=>⟨ad,vs,n,r.inv,g,q⟩
 |_=>exact(Al rfl h).elim
theorem Rep.dct(r:Rep S.cv s.heap (DN N V) a v)(hs:Inv S N V s)(h:dd V a=a0 l) :
  ∃ad es n,v=.ref ad/\s.heap.get? ad=a0 (AU (aA es) n)/\(ad == cG)=a7/\(l.map (·.1)).Nodup/\RepD S.cv s.heap (DN N V) l es:=by
 cases a with
 |dict l'=>refine X3pppp r.inv λa b c e f Z r=>?_;exact⟨a,b,c,e,f,ae h▸r⟩
 |loc ad z =>
  refine X1pp (AC (show (V ad).bind Mg.dict?=a0 l from h)) λo e h=>?_
  obtain rfl:=Mg.dict?_out h;exact X2pp ((hs.rep ad _ e).inv) λvs n g q=>⟨ad,vs,n,r.inv,g,q⟩
 |_=>exact(Al rfl h).elim
end
mutual
noncomputable def GQ:AV->Option PyData
 |.none=>a0 .none
 |.bool b=>a0 (.bool b)
 |.int i=>a0 (.int i)
 |.str s=>a0 (.str s)
 |.tup l=>(DJ l).map .tuple
 |.list l=>(DJ l).map .list
 |.dict _=>aa
 |.inst _=>aa
 |.loc _ _=>aa
 |.exc _=>aa
 |.range _ _ _=>aa
 |.nums _=>aa
 |.cls _=>aa
noncomputable def DJ:List AV->Option (List PyData)
 |[]=>a0 []
 |x::l=>(GQ x).bind λd=>(DJ l).map λds=>d::ds
end
theorem Fk(e:a0 d=a0 d')(r:∃as,Reads h v d as):∃as,Reads h v d' as:=ae e▸r
theorem J9(e:a0 []=a0 ds):∃as,ReadsAll h [] ds as:=ae e▸⟨_,.nil⟩
theorem Rep.reads(r:Rep cv h D a v):∀{d:PyData},GQ a=a0 d->∃as,Reads h v d as :=
 Rep.rec (motive_1:=λa v Z=>∀{d:PyData},GQ a=a0 d->∃as,Reads h v d as) (motive_2:=λl vs Z=>∀{U:List PyData},DJ l=a0 U->∃as,ReadsAll h vs U as) (motive_3:=λZ Z Z=>True) (motive_4:=λZ Z Z=>True)
  (λe=>Fk e ⟨_,.none⟩) (λb Z e=>Fk e ⟨_,.bool b⟩) (λi t Z e=>Fk e ⟨_,.int i t⟩) (λx t Z e=>Fk e ⟨_,.str x t⟩)
  (λg Z Z y Z e=>by
   refine X1pp (aX.mp e) λU u Z0=>?_;clear e;subst Z0;obtain⟨as,q⟩:=y u;exact⟨as,.tuple g rfl rfl q⟩)
  (λg Z Z y Z e=>by
   refine X1pp (aX.mp e) λU u Z1=>?_;clear e;subst Z1;obtain⟨as,q⟩:=y u;exact⟨_,.list g rfl rfl q⟩)
  (λZ Z Z Z Z Z Z e=>(Al rfl e).elim) (λZ Z Z Z Z Z Z Z e=>(Al rfl e).elim) (λZ Z Z e=>(Al rfl e).elim) (λZ Z Z Z Z Z e=>(Al rfl e).elim) (λZ Z Z e=>(Al rfl e).elim) (λZ Z e=>(Al rfl e).elim) (λZ Z Z Z Z Z e=>(Al rfl e).elim)
  (λe=>J9 e)
  (λZ Z T z Z e=>by
   refine X1pp (fj.mp e) λd u e=>X1pp (aX.mp e) λU O B=>?_;clear e;subst B;exact X1p (T u) λas q=>X1p (z O) λbs Y=>⟨_,.cons q Y⟩)
  trivial (λZ Z Z Z Z Z=>trivial) trivial (λZ Z Z Z=>trivial) r
theorem RepL.reads(r:RepL cv h D l vs)(e:DJ l=a0 U):∃as,ReadsAll h vs U as:=by
 induction l generalizing vs U with
 |nil=>rw[show vs=[] from r.inv];exact J9 e
 |cons x l y =>
  exact X2lpp vs r.inv λv O a b=>X1pp (fj.mp e) λd u e=>X1pr U (aX.mp e) λU z=>X1p (a.reads u) λas q=>X1p (y b z) λbs T=>⟨_,.cons q T⟩
noncomputable def BX(V:L0)(a:AV):Option PyData:=match a with
 |.loc _ _=>(dl V a).bind λl=>(DJ l).map .list
 |a=>GQ a
theorem Rep.readsS(r:Rep S.cv s.heap (DN N V) a v)(hs:Inv S N V s)(h:BX V a=a0 d):∃as,Reads s.heap v d as:=by
 cases a with
 |loc ad O =>
  simp only[BX,fj,aX]at h;exact X1pp h λl Y u=>X1pr d u λT z=>X3lpp v (r.lst hs Y) λad vs n e U=>X1p (U.reads z) λas q=>⟨_,.list e rfl rfl (by simpa using q)⟩
 |_=>exact r.reads h
theorem RepL.app(B:RepL cv h D l vs)(O:RepL cv h D k ws):RepL cv h D (l++k) (vs++ws):=by
 induction l generalizing vs with
 |nil=>rw[show vs=[] from B.inv];exact O
 |cons v l y=>obtain⟨u,z,rfl,a,b⟩:=B.inv;exact .cons a (y b)
section
variable {F:Fx S}{m:Nat->Option AV}{V:L0}{X:a8->ag->Prop}{Q:AV->L0->Prop}
theorem BT.addList(ha:dl V a=a0 l)(hb:dl V b=a0 k)(hz:l.length+k.length<=big)(h:Fresh V (.list (l++k)) (.list (l++k)) Q):BT F m V .Add a b Q X:=by
 refine λO u s hs B z=>X3lpp O (B.lst hs.inv ha) λad vs n e U=>X3lpp u (z.lst hs.inv hb) λbd ws n2 T Y=>?_;have y:vs.toArray.size+ws.toArray.size<=sizeLine:=by
  have h1:=U.length;have h2:=Y.length;simp only[aG];exact Bn (lin [l.length,k.length,big,vs.length,ws.length] [] (.b (.A V3 V4) V2) [.b (.A V0 V1) V2,.d V3 V0,.d V4 V1] rfl hz h1 h2)
 refine concat_meets ⟨_,e,rfl⟩ ⟨_,T,rfl⟩ noFill_list_add seq_list_add PySem.F.slot_list_add PySem.F.entry_list_add (PySem.F.args_list_add_2 _ _) (list_addW ad bd vs.toArray ws.toArray n n2 aa aa #[] #[] y) ⟨e,T,?_⟩;have q:vs.toArray++ws.toArray=(vs++ws).toArray:=by simp
 rw[q];exact BG (tk:=s.toks) hs (Ax _ _) (Ay _) (aE _ rfl) (U.app Y) h
theorem KT.intEq{Q:Bool->L0->Prop}(h:Q (a == b) V):KT F m V .Eq (.int a) (.int b) Q X:=by
 intro Y y s hs u O;refine X1l Y u.inv λZ=>?_;refine X1l y O.inv λZ=>?_;exact eq_int ⟨V,L2.refl _ _ _ _,hs,_,rfl,h⟩
theorem KT.intNe{Q:Bool->L0->Prop}(h:Q (a != b) V):KT F m V .NotEq (.int a) (.int b) Q X:=by
 intro Y y s hs u O;refine X1l Y u.inv λZ=>?_;refine X1l y O.inv λZ=>?_;exact ne_int ⟨V,L2.refl _ _ _ _,hs,_,rfl,h⟩
theorem KT.intLt{Q:Bool->L0->Prop}(h:Q (decide (a<b)) V):KT F m V .Lt (.int a) (.int b) Q X:=by
 intro Y y s hs u O;refine X1l Y u.inv λZ=>?_;refine X1l y O.inv λZ=>?_;exact lt_int ⟨V,L2.refl _ _ _ _,hs,_,rfl,h⟩
theorem KT.intLe{Q:Bool->L0->Prop}(h:Q (decide (a<=b)) V):KT F m V .LtE (.int a) (.int b) Q X:=by
 intro Y y s hs u O;refine X1l Y u.inv λZ=>?_;refine X1l y O.inv λZ=>?_;exact le_int ⟨V,L2.refl _ _ _ _,hs,_,rfl,h⟩
theorem KT.intGt{Q:Bool->L0->Prop}(h:Q (decide (b<a)) V):KT F m V .Gt (.int a) (.int b) Q X:=by
 intro Y y s hs u O;refine X1l Y u.inv λZ=>?_;refine X1l y O.inv λZ=>?_;exact gt_int ⟨V,L2.refl _ _ _ _,hs,_,rfl,h⟩
theorem KT.eq{Q:Bool->L0->Prop}(ha:BX V a=a0 da)(B:BX V b=a0 db)(y:dF da=a6)(z:dF db=a6)(h:Q (fX da db) V):KT F m V .Eq a b Q X:=by
 exact λU d s hs Y O=>X1p (Y.readsS hs.inv ha) λas Y=>X1p (O.readsS hs.inv B) λbs O=>eq_dataH Y O y z (by have:=F.room.un;unfold cLine;exact lin [F.A.units,F.k] [] (.c (.A V0 K64) EB) [.c (.A V0 (.M 20 V1)) BI] rfl this) ⟨V,L2.refl _ _ _ _,hs,_,rfl,h⟩
theorem KT.ne{Q:Bool->L0->Prop}(ha:BX V a=a0 da)(B:BX V b=a0 db)(y:dF da=a6)(z:dF db=a6)(h:Q (!PyData.eqv da db) V):KT F m V .NotEq a b Q X:=by
 exact λU d s hs Y O=>X1p (Y.readsS hs.inv ha) λas Y=>X1p (O.readsS hs.inv B) λbs O=>ne_dataH Y O y z (by have:=F.room.un;unfold cLine;exact lin [F.A.units,F.k] [] (.c (.A V0 K64) EB) [.c (.A V0 (.M 20 V1)) BI] rfl this) ⟨V,L2.refl _ _ _ _,hs,_,rfl,h⟩
noncomputable def key(k:Ah):List Int:=[k.1,k.2]
class inductive XsOf(cv:Nat->a8)(h:Heap)(D:bg->Prop):List (Ah×AV)->List (List Int×bg×a8)->Prop
 |nil:XsOf cv h D [] []
 |cons {k:Ah}{x:AV}{l:List (Ah×AV)}{t:bg}{tx ty:Tok}{n:Nat}{v:a8}{xs:List (List Int×bg×a8)} :
   h.get? t=a0 (BD #[.int k.1 tx,.int k.2 ty] n)->¬D t->Rep cv h D x v->XsOf cv h D l xs->XsOf cv h D ((k,x)::l) ((key k,t,v)::xs)
theorem D2(e:h.get? t=a0 (BD #[.int k.1 tx,.int k.2 ty] n)):IsTupleKey (bJ S.prog S.w) h (key k) t :=
 ⟨_,_,n,e,rfl,rfl,.cons (by simp[bJ,Value.isInt]) (.cons (by simp[bJ,Value.isInt]) .nil)⟩
theorem RepD.xs(r:RepD cv h D l es):∃xs,XsOf cv h D l xs/\es=xs.map (cH (be (bJ S.prog S.w))):=by
 induction l generalizing es with
 |nil=>exact⟨[],.nil,r.inv⟩
 |cons p l y =>
  refine X6lpppp es r.inv λt B T n v r e d q rs=>?_;obtain⟨xs,Y,z⟩:=y rs;exact⟨_,.cons e d q Y,by rw[z];rfl⟩
theorem XsOf.repD(r:XsOf cv h D l xs):RepD cv h D l (xs.map (cH (be (bJ S.prog S.w)))):=by
 induction r with|nil=>exact .nil|cons e d r _ y=>exact .cons e d r y
theorem Hg(h:key a=key b):a=b:=by
 obtain⟨y,d⟩:=a;obtain⟨z,B⟩:=b;simp only[key,List.cons.injEq,and_true]at h;rw[h.1,h.2]
theorem XsOf.keys(r:XsOf cv h D l xs):xs.map (·.1)=l.map λp=>key p.1:=by
 induction r with|nil=>rfl|cons _ _ _ _ y=>rw[b5,b5,y]
theorem EM{l:List (Ah×AV)}(h:(l.map (·.1)).Nodup):(l.map λp=>key p.1).Nodup:=by
 have:(l.map λp=>key p.1)=(l.map (·.1)).map key:=by rw[aV];rfl
 rw[this];exact b6.mpr (h.imp λd q=>d (Hg q))
theorem XsOf.is(r:XsOf cv h D l xs):∀x∈xs,(be (bJ S.prog S.w)).is h x.1 x.2.1:=by
 induction r with|nil=>exact λZ u=>absurd u bp|cons e _ _ _ y=>exact λx u=>(az.mp u).elim (λq=>q▸D2 e) (y x)
theorem Ec(x:XsOf cv h D l xs)(y:(l.map (·.1)).Nodup)
  (e:h.get? d=a0 (AU (xs.map (cH (be (bJ S.prog S.w)))).toArray n)):h.DictOfH (be (bJ S.prog S.w)) d xs :=
 ⟨_,_,n,e,⟨rfl,rfl,rfl⟩,rfl,by simp,x.is,by rw[x.keys];exact EM y⟩
noncomputable def A2(l:List (Ah×AV))(k:Ah):Option AV:=(l.find? λp=>decide (p.1=k)).map (·.2)
theorem XsOf.at_(k:Ah)(r:XsOf cv h D l xs) :
  match A2 l k,atKey xs (key k)with
  |some av,a0 p=>Rep cv h D av p.2
  |aa,aa=>True
  |_,_=>False:=by
 induction r with
 |nil=>exact trivial
 | @cons k' x l t _ _ _ v xs e d r rs y =>
  unfold A2 atKey at y ⊢
  by_cases q:k'=k
  .clear y;subst q;simp only[dD,decide_true,ef];exact r
  .have O:¬key k'=key k:=λz=>q (Hg z)
   simp only[dD,decide_eq_false q,decide_eq_false O];exact y
noncomputable abbrev sp(k:Ah):AV:=.tup [.int k.1,.int k.2]
theorem Rep.spot(r:Rep cv h D (sp k) v):∃t B T n,v=.ref t/\h.get? t=a0 (BD #[.int k.1 B,.int k.2 T] n)/\¬D t:=by
 obtain⟨t,vs,n,rfl,e,d,r⟩:=r.inv;obtain⟨v,us,rfl,Y,U⟩:=r.inv;refine X2ppp U.inv λu ws Z0 y O=>?_;clear r U;subst Z0;obtain rfl:=O.inv;refine X1p Y.inv λB z=>?_;clear Y r;subst z;obtain⟨T,rfl⟩:=y.inv;exact⟨_,_,_,_,rfl,e,d⟩
theorem Br(F:Fx S):(be (bJ S.prog S.w)).room F.A.in1:=by
 show F.A.in1.units<cLine
 have:=F.room.un;unfold cLine;simp;exact lin [F.A.units,F.k] [] (.c (.A V0 K1) EB) [.c (.A V0 (.M 20 V1)) BI] rfl this
theorem room_0(F:Fx S):(be (bJ S.prog S.w)).room F.A:=by
 show F.A.units<cLine
 have:=F.room.un;unfold cLine;exact lin [F.A.units,F.k] [] (.c V0 EB) [.c (.A V0 (.M 20 V1)) BI] rfl this
theorem KT.inDict{Q:Bool->L0->Prop}(hb:dd V b=a0 l)(h:Q (A2 l k).isSome V):KT F m V .In (sp k) b Q X:=by
 refine λY y s hs T O=>X4lpp Y T.spot λt tx ty n e d=>X3lpppp y (O.dct hs.inv hb) λad es n' e' z B U=>X1pp (RepD.xs (S:=S) U) λxs u Z0=>?_;clear U;subst Z0;have q:=u.at_ k;refine wpAny_in_heap (Br F) (D2 e) z (Ec u B e') ⟨V,L2.toks _ _ _ _ _,hs.tok _,_,rfl,?_⟩
 have:(atKey xs (key k)).isSome=(A2 l k).isSome:=by
  revert q
  cases A2 l k<;>cases atKey xs (key k)<;>simp
 rwa [this]
theorem KT.isNone{Q:Bool->L0->Prop}(h:match a with|.none=>Q a6 V|.cls _=>False|_=>Q a7 V):KT F m V .Is a .none Q X:=by
 intro U y s hs Y O
 cases O
 refine is_none ⟨V,L2.refl _ _ _ _,hs,_,rfl,?_⟩
 induction Y using Rep.casesOn<;>first|exact h|exact h.elim
theorem KT.isNotNone{Q:Bool->L0->Prop}(h:match a with|.none=>Q a7 V|.cls _=>False|_=>Q a6 V):KT F m V .IsNot a .none Q X:=by
 intro U y s hs Y O
 cases O
 refine isNot_none ⟨V,L2.refl _ _ _ _,hs,_,rfl,?_⟩
 induction Y using Rep.casesOn<;>first|exact h|exact h.elim
theorem Fs(h:Bf r=a6):behindInMarks op r=a7:=by
 cases r<;>first|rfl|exact nF h
theorem ET.cmp(h:ET F m V l (λa Aa=>ET F m Aa r (λb z=>KT F m z op a b (λc O=>Q (.bool c) O) X) X) X):ET F m V (.cmp op l r) Q X:=by
 refine λpe hc s hs=>X3lppp pe hc.inv λZ Z Z hn hl hr=>wpAny_Compare1 ((h _ hl s hs).out ?_) (Fs hn);intro Y Aa Ac Ai Ad u;obtain⟨a,B,AQ⟩:=u;refine(AQ _ hr Ac Ad).out ?_;intro y z Aj T U u;obtain⟨b,d,Bu⟩:=u;refine(Bu Y y Aj U (B.st T U) d).out ?_;intro v O BR Bb AY u;obtain⟨c,rfl,I4⟩:=u;exact⟨O,(Ai.trans T).trans Bb,AY,_,.bool c,I4⟩
theorem TT.cmp{Q:Bool->L0->Prop}(h:ET F m V l (λa Aa=>ET F m Aa r (λb z=>KT F m z op a b Q X) X) X):TT F m V (.cmp op l r) Q X:=by
 refine λpe hc s hs=>X3lppp pe hc.inv λZ Z Z hn hl d=>wpAny_isTrue_Compare1 ((h _ hl s hs).out ?_) (Fs hn);intro Y Aa Ac Ai Ad u;obtain⟨a,B,AQ⟩:=u;refine(AQ _ d Ac Ad).out ?_;intro y z Aj T U u;obtain⟨b,O,Bu⟩:=u;refine(Bu Y y Aj U (B.st T U) O).out ?_;intro v As BR Bb AY u;obtain⟨c,rfl,I4⟩:=u;exact cE ⟨As,(Ai.trans T).trans Bb,AY,I4⟩
end
end
section
set_option backward.match.sparseCases true
open PySem PyProof.Rows
variable {S:Sta}
section
variable {F:Fx S}{m:Nat->Option AV}{V:L0}{X:a8->ag->Prop}{Q:AV->L0->Prop}
theorem ET.neg(h:ET F m V x (λa Aa=>∃i,a=.int i/\Q (.int (-i)) Aa) X):ET F m V (.neg x) Q X:=by
 refine λpe d s hs=>X2lp pe d.inv λZ Z U=>wpAny_UnaryOp ((h _ U s hs).out ?_);intro Y Aa Ac T B u;obtain⟨a,y,i,rfl,z⟩:=u;refine X1l Y y.inv λZ=>?_;obtain⟨V',st,r,O⟩:=Bm (Ac.toks+1) B (.int (-i) Ac.toks) z;exact neg_int ⟨V',T.trans st,r,O⟩
theorem ET.not(h:ET F m V x (λa Aa=>∃b,a=.bool b/\Q (.bool (!b)) Aa) X):ET F m V (.not x) Q X:=by
 refine λpe U s hs=>X2lp pe U.inv λZ Z d=>wpAny_UnaryOp ((h _ d s hs).out ?_);intro T Aa Ac y B u;obtain⟨a,Y,b,rfl,z⟩:=u;obtain rfl:=Y.inv;exact not_of (cE ⟨Aa,y,B,_,.bool _,z⟩)
theorem TT.not{Q:Bool->L0->Prop}(h:TT F m V x (λb Aa=>Q (!b) Aa) X):TT F m V (.not x) Q X:=by
 exact λpe d s hs=>X2lp pe d.inv λZ Z u=>wpAny_isTrue_Not ((h _ u s hs).out λZ V' Z st Y q=>⟨V',st,Y,q⟩)
noncomputable def Kf(e:E):Bool:=!(cr (kd e.st) 3)
noncomputable def HO(e:E):Bool:=Kf e.un
theorem I5(d:HO e=a6)(hc:CE tb sc pe e):isTrue pe env (eval pe env)=(do let v <- eval pe env;standAt pe.pos;holding [v] (truthy v)):=by
 replace hc:=hc.un;unfold HO at d;generalize e.un=e at hc d;replace hc:=hc.1;unfold Kf at d;rw[<- hc]at d
 cases pe with
 |UnaryOp op x p=>cases op<;>first|rfl|exact(aQ d).elim
 |_=>first|rfl|exact(aQ d).elim
theorem TT.val{Q:Bool->L0->Prop}(y:HO e=a6)(h:ET F m V e (λa Aa=>∃b,a=.bool b/\Q b Aa) X):TT F m V e Q X:=by
 refine λpe d s hs=>wpAny_isTrue_value ((h _ d s hs).out ?_) (I5 y d);intro T Aa Ac U B u;obtain⟨a,Y,b,rfl,z⟩:=u;obtain rfl:=Y.inv;exact cE ⟨Aa,U,B,z⟩
def AndT(F:Fx S)(m:Nat->Option AV)(X:a8->ag->Prop)(Q:Bool->L0->Prop):List E->L0->Prop
 |[],V=>Q a6 V
 |e::r,V=>TT F m V e (λb Aa=>if b then AndT F m X Q r Aa else Q a7 Aa) X
def OrT(F:Fx S)(m:Nat->Option AV)(X:a8->ag->Prop)(Q:Bool->L0->Prop):List E->L0->Prop
 |[],V=>Q a7 V
 |e::r,V=>TT F m V e (λb Aa=>if b then Q a6 Aa else OrT F m X Q r Aa) X
theorem HB{Q:Bool->L0->Prop}{es:List E}:∀{B:List aT}{V:L0}{s:ag},CEs F.tb F.sc B es->AndT F m X Q es V->F.St m V s ->
  W F m V s (allTrue .And B F.env) (λb V' Z=>Q b V') X:=by
 induction es with
 |nil =>
  intro B V s d h hs;obtain rfl:=d.inv_nil;exact wpAny_allTrue_And_nil ⟨V,L2.refl _ _ _ _,hs,h⟩
 |cons e r y =>
  intro B V s d h hs;refine X2lppp B d.inv λZ Z Z T Y=>wpAny_allTrue_And_cons ((h _ T s hs).out ?_)
  rintro b Aa Ac U O z
  cases b with|true=>exact(y Y z O).later U|false=>exact⟨Aa,U,O,z⟩
theorem Jz{Q:Bool->L0->Prop}{es:List E}:∀{B:List aT}{V:L0}{s:ag},CEs F.tb F.sc B es->OrT F m X Q es V->F.St m V s ->
  W F m V s (allTrue .Or B F.env) (λb V' Z=>Q b V') X:=by
 induction es with
 |nil =>
  intro B V s d h hs;obtain rfl:=d.inv_nil;exact wpAny_allTrue_Or_nil ⟨V,L2.refl _ _ _ _,hs,h⟩
 |cons e r y =>
  intro B V s d h hs;refine X2lppp B d.inv λZ Z Z T Y=>wpAny_allTrue_Or_cons ((h _ T s hs).out ?_)
  rintro b Aa Ac U O z
  cases b with|false=>exact(y Y z O).later U|true=>exact⟨Aa,U,O,z⟩
theorem TT.and{Q:Bool->L0->Prop}(h:AndT F m X Q es V):TT F m V (.and es) Q X:=by
 exact λpe d s hs=>X2lp pe d.inv λZ Z u=>wpAny_isTrue_BoolOp (HB u h hs)
theorem TT.or{Q:Bool->L0->Prop}(h:OrT F m X Q es V):TT F m V (.or es) Q X:=by
 exact λpe d s hs=>X2lp pe d.inv λZ Z u=>wpAny_isTrue_BoolOp (Jz u h hs)
def AndV(F:Fx S)(m:Nat->Option AV)(X:a8->ag->Prop)(Q:AV->L0->Prop):List E->L0->Prop
 |[],_=>False
 |[e],V=>ET F m V e Q X
 |e::r,V=>ET F m V e (λa Aa=>∃b,a=.bool b/\if b then AndV F m X Q r Aa else Q (.bool a7) Aa) X
def OrV(F:Fx S)(m:Nat->Option AV)(X:a8->ag->Prop)(Q:AV->L0->Prop):List E->L0->Prop
 |[],_=>False
 |[e],V=>ET F m V e Q X
 |e::r,V=>ET F m V e (λa Aa=>∃b,a=.bool b/\if b then Q (.bool a6) Aa else OrV F m X Q r Aa) X
theorem Dx(pos:Pos)(op:BoolOp)(x y:Sem a8)(r:List (Sem a8)):boolOp pos op (x::y::r)=(do
  let v <- x
  standAt pos
  let t <- holding [v] (truthy v)
  match op,t with
  |.And,a7|.Or,a6=>pure v
  |_,_=>boolOp pos op (y::r)):=rfl
theorem Jx:∀{B:List aT}{V:L0}{s:ag},CEs F.tb F.sc B es->AndV F m X Q es V->F.St m V s ->
  VT F m V s (boolOp pos .And (evalEach B F.env)) Q X:=by
 induction es with
 |nil=>intro B V s Y h hs;exact h.elim
 |cons e r ih =>
 intro B V s Y h hs;refine X2lppp B Y.inv λZ Z Z d y=>?_
 cases r with
 |nil=>obtain rfl:=y.inv_nil;exact h _ d s hs
 |cons e' r =>
  have u:=y;refine X2pp u.inv λZ Z Z0 Z=>?_;subst Z0;show VT F m V s (boolOp pos .And (eval _ F.env::eval _ F.env::evalEach _ F.env)) Q X;rw[Dx];refine ac ((h _ d s hs).out ?_);intro va Aa Ac U T z;obtain⟨a,ra,b,rfl,O⟩:=z;obtain rfl:=ra.inv;refine ac (dL (ac (bh (cE ?_))))
  cases b with|true=>exact(ih y O T).later U|false=>exact ai ⟨Aa,U,T,_,.bool _,O⟩
theorem LY:∀{B:List aT}{V:L0}{s:ag},CEs F.tb F.sc B es->OrV F m X Q es V->F.St m V s ->
  VT F m V s (boolOp pos .Or (evalEach B F.env)) Q X:=by
 induction es with
 |nil=>intro B V s Y h hs;exact h.elim
 |cons e r ih =>
 intro B V s Y h hs;refine X2lppp B Y.inv λZ Z Z d y=>?_
 cases r with
 |nil=>obtain rfl:=y.inv_nil;exact h _ d s hs
 |cons e' r =>
  have u:=y;refine X2pp u.inv λZ Z Z0 Z=>?_;subst Z0;show VT F m V s (boolOp pos .Or (eval _ F.env::eval _ F.env::evalEach _ F.env)) Q X;rw[Dx];refine ac ((h _ d s hs).out ?_);intro va Aa Ac U T z;obtain⟨a,ra,b,rfl,O⟩:=z;obtain rfl:=ra.inv;refine ac (dL (ac (bh (cE ?_))))
  cases b with|false=>exact(ih y O T).later U|true=>exact ai ⟨Aa,U,T,_,.bool _,O⟩
theorem ET.and(h:AndV F m X Q es V):ET F m V (.and es) Q X:=by
 exact λpe d s hs=>X2lp pe d.inv λZ Z u=>Jx u h hs
theorem ET.or(h:OrV F m X Q es V):ET F m V (.or es) Q X:=by
 exact λpe d s hs=>X2lp pe d.inv λZ Z u=>LY u h hs
theorem ET.ite(h:TT F m V c (λt Aa=>if t then ET F m Aa a Q X else ET F m Aa b Q X) X):ET F m V (.ite c a b) Q X:=by
 intro pe d s hs;have y:=d.inv;clear d;refine X4lppp pe y λZ Z Z Z d ha T=>wpAny_IfExp ((h _ d s hs).out ?_)
 rintro t Aa Ac U B z
 cases t with|true=>exact(z _ ha Ac B).later U|false=>exact(z _ T Ac B).later U
theorem wp_rel{Q:Unit->ag->Prop}(h:Q () s):wpAny (model S.prog S.w) A (release vs ks) Q X s:=λΓ p _=>by
 rwa [Sem.wp_release]
theorem TT.cmp2{Q:Bool->L0->Prop}
  (h:ET F m V a (λx Aa=>ET F m Aa b (λy Ab=>KT F m Ab o1 x y (λt B=>if t then ET F m B c (λz Dl=>KT F m Dl o2 y z Q X) X else Q a7 B) X) X) X) :
  TT F m V (.cmp2 o1 o2 a b c) Q X:=by
 refine λpe hc s hs=>X4lppppp pe hc.inv λY d pc pos hn1 T ha hb hcc=>?_
 have he:isTrue (.Compare Y [o1,o2] [d,pc] pos) F.env (eval (.Compare Y [o1,o2] [d,pc] pos) F.env) =
  (do testChain pos (<- eval Y F.env) [o1,o2] (markedEach [o1,o2] [d,pc] [eval d F.env,eval pc F.env])):=rfl
 show wpAny _ _ (isTrue _ _ _) _ _ _;rw[he];have hme:markedEach [o1,o2] [d,pc] [eval d F.env,eval pc F.env]=[eval d F.env,eval pc F.env]:=by
  have h2:=markedBehindIn_of_false (t:=eval pc F.env) (Fs (op:=o2) T);simp only[markedEach,h2]
 rw[hme];refine ac ((h _ ha s hs).out ?_);intro va Aa Ac Ai Ad u;obtain⟨x,rx,AQ⟩:=u;refine ac (bh ((AQ _ hb Ac Ad).out ?_));intro vb Ab Aj Ap Ag u;obtain⟨y,ry,Bu⟩:=u;refine ac (dL (ac (bh ((Bu va vb Aj Ag (rx.st Ap Ag) ry).out ?_))));refine λv B BR Bb AY u=>X1lp v u λt I4=>ac (m:=release _ _) (wp_rel (ac (bh (cE ?_))))
 cases t with
 |false=>exact ai ⟨B,(Ai.trans Ap).trans Bb,AY,I4⟩
 |true =>
  refine ac (bh ((I4 _ hcc BR AY).out ?_));intro vc Dl BQ Cw BA u;obtain⟨z,rz,O⟩:=u;refine ac (dL (ac (m:=operate _ _) (wpAny_operating ((O vb vc BQ BA ((ry.st Bb AY).st Cw BA) rz).out ?_))));exact λv EC FX EE Fy u=>X1lp v u λt U=>bh (cE ⟨EC,(((Ai.trans Ap).trans Bb).trans Cw).trans EE,Fy,U⟩)
end
end
section
open PySem PyProof.Rows
variable {S:Sta}
section
variable {F:Fx S}{m:Nat->Option AV}{V:L0}{X:a8->ag->Prop}{Q:AV->L0->Prop}
def IT(F:Fx S)(m:Nat->Option AV)(V:L0)(a k:AV)(Q:AV->L0->Prop)(X:a8->ag->Prop):Prop :=
 ∀va vk s,F.St m V s->Rep S.cv s.heap (F.D V) a va->Rep S.cv s.heap (F.D V) k vk ->
  ∃T id,s.TypeIs va T/\typeLookup (.type T) "__getitem__"=pure (a0 (.builtin id))/\VT F m V s (getItem va vk) Q X
theorem C6(h:BN i=a6):subscripted i a7 o k=operate [o,k] (getItem o k):=by
 cases i<;>first|rfl|exact nF h
theorem ET.sub(h:ET F m V o (λa Aa=>ET F m Aa i (λk O=>IT F m O a k Q X) X) X):ET F m V (.sub o i) Q X:=by
 refine λpe hc s hs=>X3lppp pe hc.inv λZ Z Z hn ho hi=>Subscript_ ((h _ ho s hs).out ?_);intro Y Aa Ac Ai Ad u;obtain⟨a,d,AQ⟩:=u;refine(AQ _ hi Ac Ad).out ?_;intro y O Aj z U u;obtain⟨k,B,Bu⟩:=u;exact X2ppp (Bu Y y Aj U (d.st z U) B) λT id hT hl hg=>tail_any hT hl (hg.later (Ai.trans z)) (C6 hn)
theorem RepL.get{k:Nat}{x:AV}(r:RepL cv h D l vs)(e:l[k]?=a0 x):∃v,vs[k]?=a0 v/\Rep cv h D x v:=by
 induction l generalizing vs k with
 |nil=>exact(Al gX e).elim
 |cons y l Y =>
  obtain⟨v,z,rfl,a,b⟩:=r.inv
  cases k with|zero=>exact⟨v,rfl,ae e▸a⟩|succ k=>exact Y (vs:=z) (k:=k) b e
theorem lt_63{i:Int}(h:i<1000000):i<2 ^ 63:=Int.lt_trans h (by decide)
theorem seqIx{i:Int}{n:Nat}(h0:0<=i)(Y:i<n):seqIndex? i n=a0 i.toNat:=by
 unfold seqIndex?;have z:¬i<0:=by exact lin [] [i] (.l V0 K0) [.f K0 V0] rfl h0
 simp only[z,if_false];rw[if_pos (by simp;exact⟨lin [] [i] (.f K0 V0) [.f K0 V0] rfl h0,lin [n] [i] (.g V0 (.c V0)) [.g V0 (.c V0)] rfl Y⟩)]
theorem IT.list{i:Int}{x:AV}(ha:dl V a=a0 l)(h0:0<=i)(h1:i<1000000)(d:l[i.toNat]?=a0 x)(h:Q x V):IT F m V a (.int i) Q X:=by
 refine λT y s hs z u=>X3lpp T (z.lst hs.inv ha) λad vs n e U=>X1l y u.inv λZ=>X1pp (U.get d) λv B O=>?_;have Y:s.heap.IsList ad vs.toArray:=⟨_,e,rfl,n,rfl⟩;exact⟨_,_,Y.typeIs,slot_list_getitem.lookup,wpAny_getItem_list Y h0 (lt_63 h1) (by simpa using B) (now hs O h)⟩
theorem IT.nums{i x:Int}(h0:0<=i)(O:i<1000000)(u:l[i.toNat]?=a0 x)(h:Q (.int x) V):IT F m V (.nums l) (.int i) Q X:=by
 intro U y s hs T z
 .refine X4lppppp U T.inv λa o vs n e c f d r=>X1l y z.inv λZ=>X1p (r.2 _ _ u) λt B=>?_
  have Y:s.heap.IsList a vs.toArray:=⟨o,e,c,n,f⟩;exact⟨_,_,Y.typeIs,slot_list_getitem.lookup,wpAny_getItem_list Y h0 (lt_63 O) (by simpa using B) (now hs (.int _ _) h)⟩
theorem IT.tup{i:Int}{x:AV}(h0:0<=i)(h1:i<1000000)(hx:l[i.toNat]?=a0 x)(h:Q x V):IT F m V (.tup l) (.int i) Q X:=by
 intro u y s hs T U
 .refine X3lppp u T.inv λad vs n e d r=>X1l y U.inv λZ=>?_
  obtain⟨v,B,O⟩:=r.get hx;have ht:IsTup s.heap ad vs.toArray:=⟨_,e,rfl,n,rfl⟩;have Y:i.toNat<vs.length:=by
   rcases bO i.toNat vs.length with q|q
   .exact q
   .rw[aZ q]at B;exact nS B
  have z:-(2:Int) ^ 63<=i:=dG (by decide) h0
  refine⟨_,_,⟨_,e,rfl⟩,PyProof.Rows.slot_tuple_getitem.lookup,getItem_tuple ht z (lt_63 h1) (j:=i.toNat) ?_ (by simpa using B) (now hs O h)⟩
  rw[aG];exact seqIx h0 (lin [i.toNat,vs.length] [i] (.g V0 (.c V1)) [.c V0 V1,.f V0 (.c V0)] rfl Y (aI i))
theorem IT.str{i:Int}{c:Nat}(h0:0<=i)(d:i<1000000)(u:x.cps[i.toNat]?=a0 c)(h:Q (.str ⟨#[c]⟩) V):IT F m V (.str x) (.int i) Q X:=by
 refine λU y s hs T z=>X1l U T.inv λZ=>X1l y z.inv λZ=>⟨_,_,typeIs_str _ _ _,PySem.F.slot_str_getitem.lookup,P.getItem_str (c:=c) ?_ ?_ (Bm _ hs (.str _ _) h)⟩
 .have:i<2 ^ 63:=lt_63 d
  simp only[Bool.or_eq_false_iff,decide_eq_false_iff_not];exact⟨gB.mpr (dG (by decide) h0),gE.mpr this⟩
 .have Y:i.toNat<x.cps.size:=by
   rcases bO i.toNat x.cps.size with q|q
   .exact q
   .rw[Array.getElem?_eq_none q]at u;exact nS u
  rw[seqIx h0 (show i<(x.length:Int) from by have:x.length=x.cps.size:=rfl;exact lin [i.toNat,x.cps.size,x.length] [i] (.g V0 (.c V2)) [.c V0 V1,.D (-1) V2 V1,.f V0 (.c V0)] rfl Y this (aI i))]
  exact u
theorem IT.dict(ha:dd V a=a0 l)(hx:A2 l k=a0 x)(h:Q x V):IT F m V a (sp k) Q X:=by
 refine λY O s hs z T=>X4lpp O T.spot λt tx ty n e d=>X3lpppp Y (z.dct hs.inv ha) λad es n' u sm y U=>X1pp (RepD.xs (S:=S) U) λxs B Z0=>?_;clear U;subst Z0;have q:=B.at_ k;rw[hx]at q
 cases hp:atKey xs (key k)with
 |none=>rw[hp]at q;exact q.elim
 |some p =>
  rw[hp]at q;exact⟨_,_,(Ec (S:=S) B y u).typeIs,PySem.slot_dict_getitem.lookup,wpAny_getItem_heap (Br F) (D2 e) (Ec B y u) hp (Bm _ hs q h)⟩
theorem RepL.take(k:Nat)(r:RepL cv h D l vs):RepL cv h D (l.take k) (vs.take k):=by
 induction l generalizing vs k with
 |nil=>rw[show vs=[] from r.inv,List.take_nil,List.take_nil];exact .nil
 |cons y l u =>
  obtain⟨v,z,rfl,a,b⟩:=r.inv
  cases k with|zero=>exact .nil|succ k=>exact .cons a (u k b)
end
end
section
variable {S:Sta}
def Mk(S:Sta)(f:a8):Prop:=∀h,(∀b o,S.g.get? b=a0 o->h.get? b=a0 o)->∃k,(k=Keeper.frame\/k=Keeper.machine\/k=Keeper.boundFrame)/\Looks (model S.prog S.w) h (keeperOf f) k
theorem Mk.builtin(U:String):Mk S (.builtin U):=λZ Z=>⟨.machine,.inr (.inl rfl),Looks.of_pure rfl⟩
theorem Mk.type(U:String):Mk S (.type U):=λZ Z=>⟨.machine,.inr (.inl rfl),Looks.of_pure rfl⟩
theorem Mk.own(h:keepIn S.K f=a6):Mk S f:=λZ k=>keeps_K h _ (S.X.keeps k)
section
variable {F:Fx S}{m:Nat->Option AV}{V:L0}{X:a8->ag->Prop}{Q:AV->L0->Prop}
def CT(F:Fx S)(m:Nat->Option AV)(V:L0)(f:a8)(avs:List AV)(Q:AV->L0->Prop)(X:a8->ag->Prop):Prop :=
 ∀vals s,F.St m V s->RepL S.cv s.heap (F.D V) avs vals->VT F m V s (call f vals) Q X
theorem G9(d:CEs F.tb F.sc pes es):(backTo pos (fE pes F.env)).any (·.1)=a7:=by
 induction es generalizing pes with
 |nil=>obtain rfl:=d.inv_nil;rfl
 |cons e es y=>refine X2lppp pes d.inv λZ Z O Z z=>?_;rw[AW O];exact y z
theorem CY(d:CEs F.tb F.sc pes (e::es))(B:Mk S f)(h:EsT F m V (e::es) P X)(hs:F.St m V s)
  (hq:∀vals y V' s',L2 F.P F.O V s V' s'->F.St m V' s'->RepL S.cv s'.heap (F.D V') y vals->P y V'->wpAny (model S.prog S.w) F.A (call f (first++vals)) Q' X s') :
  wpAny (model S.prog S.w) F.A (callWith pos f first (backTo pos (fE pes F.env)) []) Q' X s:=by
 refine callWith_of (P:=λh=>∀b o,S.g.get? b=a0 o->h.get? b=a0 o) (by rw[G9 d];rfl) B ?_
 have h':=h _ pos d s hs;refine X2pppp d.inv λZ Z z T he U=>?_;clear d;subst z;rw[AW T]at h' ⊢;refine Calls.evalArgs_plain (W.out h' ?_);intro vals V' s' st Y u;obtain⟨y,r,p⟩:=u;exact⟨Y.inv.keep,hq vals y V' s' st Y r p⟩
theorem EY(B:Mk S f)(hs:F.St m V s)(hq:wpAny (model S.prog S.w) F.A (call f (first++[])) Q' X s) :
  wpAny (model S.prog S.w) F.A (callWith pos f first (backTo pos (fE [] F.env)) []) Q' X s :=
 callWith_of (P:=λh=>∀b o,S.g.get? b=a0 o->h.get? b=a0 o) rfl B (evalArgs_nil3 ⟨hs.inv.keep,hq⟩)
theorem ET.callg(d:Glob S i fv)(B:Mk S fv)(h:EsT F m V (e::es) (λy Aa=>CT F m Aa fv y Q X) X):ET F m V (.call (.g i) (e::es)) Q X:=by
 refine λpe U s hs=>X4lppp pe U.inv λZ Z Z Z Z u ha=>Call_ (Dp u d hs (CY ha B h hs ?_));exact λvals y V' s' st Y r p=>(p vals s' Y r).later st
theorem RepL.one(r:RepL cv h D [a] vs):∃v,vs=[v]/\Rep cv h D a v:=by
 refine X2lpp vs r.inv λv z B d=>?_;obtain rfl:=d.inv;exact⟨_,rfl,B⟩
theorem RepL.two(r:RepL cv h D [a,b] vs):∃v u,vs=[v,u]/\Rep cv h D a v/\Rep cv h D b u:=by
 exact X2lpp vs r.inv λv z B d=>X1lp z d.one λu O=>⟨_,_,rfl,B,O⟩
theorem GM(h:n<=big):¬(n:Int) >= 2 ^ 63:=by
 have:(n:Int)<=1000000:=by unfold big at h;exact lin [n] [] (.f (.c V0) Aw) [.b V0 Aw] rfl h
 exact gE.mpr (gH this (by decide))
theorem CT.lenList(ha:dl V a=a0 l)(hz:l.length<=big)(h:Q (.int l.length) V):CT F m V (.builtin "len") [a] Q X:=by
 refine λvals s hs r=>X1lp vals r.one λv Y=>X3lpp v (Y.lst hs.inv ha) λad vs n e U=>?_;have O:s.heap.IsList ad vs.toArray:=⟨_,e,rfl,n,rfl⟩;refine Calls.call_len_list O (by rw[aG,U.length];exact gE.mp (GM hz)) ?_
 rw[aG,U.length];exact Bm _ hs (.int _ _) h
theorem CT.lenInts(hz:l.length<=big)(h:Q (.int l.length) V):CT F m V (.builtin "len") [.nums l] Q X:=by
 refine λvals s hs r=>X1lp vals r.one λv Y=>?_
 .refine X4lppppp v Y.inv λa o vs n e c f d B=>?_
  have O:s.heap.IsList a vs.toArray:=⟨o,e,c,n,f⟩;refine Calls.call_len_list O (by rw[aG,B.1];exact gE.mp (GM hz)) ?_
  rw[aG,B.1];exact Bm _ hs (.int _ _) h
theorem CT.lenStr(hz:x.length<=big)(h:Q (.int x.length) V):CT F m V (.builtin "len") [.str x] Q X:=by
 exact λvals s hs r=>X1lp vals r.one λv Y=>X1l v Y.inv λZ=>P.len_str (GM hz) (Bm _ hs (.int _ _) h)
end
end
section
variable {S:Sta}
abbrev L4:=Nat->Option AV
noncomputable def L4.set(m:L4)(i:Nat)(v:AV):L4:=λj=>if j=i then a0 v else m j
set_option genCtorIdx false in
inductive Fl where
 |next
 |ret (v:AV)
noncomputable abbrev Fl.ctorIdx(x:Fl):Nat:=@Fl.casesOn (λ_=>Nat) x 0 (λ_=>1)
def FlR(cv:Nat->a8)(h:Heap)(D:bg->Prop):Flow->Fl->Prop
 |.next,.next=>True
 |.ret v,.ret a=>Rep cv h D a v
 |_,_=>False
inductive PS(F:Fx S)(V:L0)(s:ag)(K:Fl->L4->L0->Prop)(f:Flow)(s':ag):Prop
 |mk (fl:Fl)(m':L4)(V':L0)(st:L2 F.P F.O V s V' s')(h:F.St m' V' s')(r:FlR S.cv s'.heap (F.D V') f fl)(k:K fl m' V'):PS F V s K f s'
inductive PP(F:Fx S)(V:L0)(s:ag)(K:L4->L0->Prop)(s':ag):Prop
 |mk (m':L4)(V':L0)(st:L2 F.P F.O V s V' s')(h:F.St m' V' s')(k:K m' V'):PP F V s K s'
def WS(F:Fx S)(V:L0)(s:ag)(t:Sem Flow)(K:Fl->L4->L0->Prop)(X:a8->ag->Prop):Prop :=
 wpAny (model S.prog S.w) F.A t (PS F V s K) X s
def ST(F:Fx S)(m:L4)(V:L0)(st:Internal.S)(K:Fl->L4->L0->Prop)(X:a8->ag->Prop):Prop :=
 ∀ps,CS F.tb F.sc ps st->∀s,F.St m V s->WS F V s (exec ps F.env) K X
def SsT(F:Fx S)(m:L4)(V:L0)(ss:List Internal.S)(K:Fl->L4->L0->Prop)(X:a8->ag->Prop):Prop :=
 ∀ps,CSs F.tb F.sc ps ss->∀s,F.St m V s->WS F V s (execs ps F.env) K X
section
variable {F:Fx S}{m:L4}{V:L0}{X:a8->ag->Prop}{K K':Fl->L4->L0->Prop}
theorem WS.mono(h:WS F V s t K X)(k:∀f m V,K f m V->K' f m V):WS F V s t K' X :=
 aU h (λ_ _ ⟨fl,m',V',st,h1,h2,h3⟩=>⟨fl,m',V',st,h1,h2,k _ _ _ h3⟩) λZ Z e=>e
theorem WS.later(h:WS F V s t K X)(st:L2 F.P F.O AG Ak V s) :
  wpAny (model S.prog S.w) F.A t (PS F AG Ak K) X s :=
 aU h (λ_ _ ⟨fl,m',V',st',h1,h2,h3⟩=>⟨fl,m',V',st.trans st',h1,h2,h3⟩) λZ Z e=>e
theorem ST.mono{st:Internal.S}(h:ST F m V st K X)(k:∀f m V,K f m V->K' f m V):ST F m V st K' X:=λps d s hs=>(h ps d s hs).mono k
theorem SsT.mono(h:SsT F m V ss K X)(k:∀f m V,K f m V->K' f m V):SsT F m V ss K' X:=λps d s hs=>(h ps d s hs).mono k
theorem SsT.weak(h:SsT F m' V' ss K X)(T:∀i av,m' i=a0 av->m i=a0 av)(O:∀a o,V' a=a0 o->V a=a0 o):SsT F m V ss K X:=by
 exact λps d s hs=>An ((hs.weak T).drop O) λY st=>(h ps d s Y).later st.any
set_option tactic.hygienic true in
theorem SsT.nil(h:K .next m V):SsT F m V [] K X:=by
 intro ps d s hs;obtain rfl:=d.inv_nil;exact gm ⟨.next,m,V,L2.refl _ _ _ _,hs,trivial,h⟩
theorem SsT.cons{st:Internal.S}{r:List Internal.S}(h:ST F m V st (λfl Ao Aa=>match fl with|.next=>SsT F Ao Aa r K X|.ret v=>K (.ret v) Ao Aa) X):SsT F m V (st::r) K X:=by
 refine λps d s hs=>X2lpp ps d.inv λZ Z z y=>wpAny_execs_cons (aU (h _ z s hs) ?_ λZ Z e=>e);intro f Ac T;obtain⟨fl,Ao,Aa,U,B,O,q⟩:=T
 cases fl with
 |next =>
  cases f with
  |next=>exact(q _ y Ac B).later U
  |_=>exact O.elim
 |ret v =>
  cases f with|ret u=>exact⟨.ret v,Ao,Aa,U,B,O,q⟩|_=>exact O.elim
set_option tactic.hygienic true in
theorem ST.pass(h:K .next m V):ST F m V .pass K X:=by
 exact λps d s hs=>X1l ps d.inv λZ=>wpAny_Pass ⟨.next,m,V,L2.refl _ _ _ _,hs,trivial,h⟩
theorem ST.ret(h:ET F m V e (λa Aa=>K (.ret a) m Aa) X):ST F m V (.ret e) K X:=by
 refine λps d s hs=>X2lp ps d.inv λZ Z y=>wpAny_Return_some ((h _ y s hs).out ?_);intro v Aa Ac U B u;obtain⟨a,Y,q⟩:=u;exact⟨.ret a,m,Aa,U,B,Y,q⟩
theorem ST.ite(h:TT F m V c (λt Aa=>if t then SsT F m Aa a K X else SsT F m Aa b K X) X):ST F m V (.ite c a b) K X:=by
 intro ps d s hs;have y:=d.inv;clear d;refine X4lppp ps y λZ Z Z Z d ha T=>wpAny_If ((h _ d s hs).out ?_)
 rintro t Aa Ac U B z
 cases t with|true=>exact(z _ ha Ac B).later U|false=>exact(z _ T Ac B).later U
theorem St.own_turn(hs:Internal.St S tb env N P b m V s)(Y:Own env L)
  (B:∀c o,c≠L->s.heap.get? c=a0 o->h'.get? c=a0 o) (hL:∃o,h'.get? L=a0 o) (hl:Loc S.cv S.g tb env m' N V h') :
  L2 P (Own env) V s V { s with heap:=h',toks:=tk }/\Internal.St S tb env N P b m' V { s with heap:=h',toks:=tk }:=by
 have there:∀c o,s.heap.get? c=a0 o->∃O,h'.get? c=a0 O:=λc o e=>by
  by_cases q:c=L
  .clear Y B;subst q;exact hL
  .exact⟨o,B c o q e⟩
 have st:L2 P (Own env) V s V { s with heap:=h',toks:=tk }:=L2.of_but (λc o Z n e=>B c o (λq=>n (q▸Y)) e) (λZ h=>.inl h) there
 have own:=hs.loc;obtain⟨_,_,_,_,o,_,_,_⟩:=own;have e0:Ext (DN N V) s.heap h':=Ext.of_but λc u d e=>B c u (λq=>d (.inr (q▸hs.own L Y))) e;refine⟨st,⟨λc u e=>B c u (λq=>?_) (hs.inv.keep c u e),hs.inv.gens,hs.inv.drawn,hs.inv.os,hs.inv.σg,hs.inv.σN,λc h=>?_,λc u e=>?_⟩,hl,hs.frm.out st hs.new,hs.pN,hs.new,hs.own,hs.gb⟩
 .clear B hL;subst q;rw[(o c Y).2]at e;exact nS e
 .refine X1pp (hs.inv.Nin c h) λU e f=>?_
  by_cases q:c=L
  .obtain⟨mc,cm,n,cc,_⟩:=hl
   clear B hL;subst q
   rcases Y with rfl|⟨y,hy⟩
   .refine X3ppp n λO Z Z T d' Z=>?_;exact⟨O,T,λvs z=>by rw[d']at z;exact nDf rfl z⟩
   .refine X1pp (cc y _ hy) λO T d'=>?_;exact⟨O,T,λvs z=>by rw[d']at z;exact nDf rfl z⟩
  .exact⟨U,B c U q e,f⟩
 .exact(hs.inv.rep c u e).ext e0 (λZ h=>.inl h) λU T=>B c U (λq=>(o L Y).1 (by rw[<- q];unfold Dom;rw[e];simp)) T
theorem BJ(hf:F.sc.lookup x≠a0 .free)(hx:IsV F.tb F.sc x i)(hs:F.St m V s)(r:Rep S.cv s.heap (F.D V) av v)
  (h:∀s',L2 F.P F.O V s V s'->F.St (L4.set m i av) V s'->Q' () s'):wpAny (model S.prog S.w) F.A (storeName F.env x v) Q' X s:=by
 obtain⟨mc,cm,n,c,o,ap,cl,rr⟩:=hs.loc;have kd:∀y,F.env.kindOf y=F.sc.lookup y:=λZ=>rfl;have u:∀{y:Str}{j:Nat}{bv:AV},ixS F.tb y=a0 j->(L4.set m i av) j=a0 bv->(y=x/\bv=av)\/(y≠x/\m j=a0 bv):=by
  intro y j bv hj hm;unfold L4.set at hm
  by_cases q:j=i
  .clear h;subst q
   rw[if_pos rfl]at hm;exact .inl ⟨BO hj hx.ix,(ae hm).symm⟩
  .rw[if_neg q]at hm
   refine .inr ⟨λe=>?_,hm⟩;clear hf;subst e;rw[hx.ix]at hj;exact q (ae hj).symm
 rcases hx.kind with q|q|q
 .refine wpAny_storeName_local ((kd x).trans q) n (λh' hn hsb=>?_) (by rw[F.fk];rfl)
  have hk:∀U oc,U≠F.env.locals->s.heap.get? U=a0 oc->h'.get? U=a0 oc:=λU oc ne e=>hsb.extBut U oc ne e;have hL:∃oo,h'.get? F.env.locals=a0 oo:=by refine X3pp hn λoo Z Z e Z=>?_;exact⟨oo,e⟩
  have e0:Ext (F.D V) s.heap h':=Ext.of_but λU oc d e=>hk U oc (λq=>d (.inr (q▸hs.own _ (.inl rfl)))) e;have Y:Loc S.cv S.g F.tb F.env (L4.set m i av) F.N V h':=by
   refine⟨_,cm,hn,λy U hy=>?_,o,ap,cl,λy j bv hj hm=>?_⟩
   .exact X1pp (c y U hy) λob e hd=>⟨ob,hk U ob (cl y U hy) e,hd⟩
   .rcases u hj hm with⟨rfl,rfl⟩|⟨ne,hm'⟩
    .rw[kd,q]
     exact⟨v,if_pos rfl,r.ext e0 λZ h=>.inl h⟩
    .exact LocAt.map (rr y j bv hj hm') (λh2=>h2.ext e0 λZ h=>.inl h) (λZ B=>(if_neg ne).trans B) (λZ B=>B)
  exact An (St.own_turn (tk:=s.toks+1) hs (.inl rfl) hk hL Y) λst B=>h _ st B
 .have hc:=F.fc x ((kd x).trans q)
  .refine X1p hc λU T=>wpAny_storeName_cell F.fk ((kd x).trans q) T (c x U T) (λh' hv hsb=>?_)
   have hk:∀d od,d≠U->s.heap.get? d=a0 od->h'.get? d=a0 od:=λd od ne e=>hsb.extBut d od ne e;have hL:∃oo,h'.get? U=a0 oo:=by refine X1pp hv λoo e Z=>?_;exact⟨oo,e⟩
   have e0:Ext (F.D V) s.heap h':=Ext.of_but λd od dd e=>hk d od (λq=>dd (.inr (q▸hs.own _ (.inr ⟨x,T⟩)))) e;have Y:Loc S.cv S.g F.tb F.env (L4.set m i av) F.N V h':=by
    refine⟨mc,λy=>if y=x then a0 v else cm y,n.sameBut hsb (dO (cl x U T)),λy d hy=>?_,o,ap,cl,λy j bv hj hm=>?_⟩
    .by_cases e:y=x
     .clear hf hx u q hc;subst e;rw[T]at hy;obtain rfl:=ae hy;simp only[if_true];exact hv
     .simp only[if_neg e]
      exact X1pp (c y d hy) λob eo hd=>⟨ob,hk d ob (λz=>e (ap y x d hy (z▸T))) eo,hd⟩
    .rcases u hj hm with⟨rfl,rfl⟩|⟨ne,hm'⟩
     .rw[kd,q]
      exact⟨v,U,T,if_pos rfl,r.ext e0 λZ h=>.inl h⟩
     .exact LocAt.map (rr y j bv hj hm') (λh2=>h2.ext e0 λZ h=>.inl h) (λZ B=>B) (λZ B=>(if_neg ne).trans B)
   exact An (St.own_turn (tk:=s.toks) hs (.inr ⟨x,T⟩) hk hL Y) λst B=>h _ st B
 .exact absurd q hf
def PT(F:Fx S)(m:L4)(V:L0)(p:Pat)(a:AV)(K:L4->L0->Prop)(X:a8->ag->Prop):Prop :=
 ∀pe,CP F.tb F.sc pe p->∀v s,F.St m V s->Rep S.cv s.heap (F.D V) a v ->
  wpAny (model S.prog S.w) F.A (assign pe F.env v) (λZ=>PP F V s K) X s
theorem PT.v{K:L4->L0->Prop}(h:K (L4.set m i a) V):PT F m V (.v i) a K X:=by
 exact λpe d v s hs r=>X2lpp pe d.inv λZ Z O u=>wpAny_assign_Name (BJ O u hs r λs' st Y=>⟨_,V,st,Y,h⟩)
noncomputable def DF(e:E):Bool:=!(cr (kd e.st) 1)
noncomputable def Kq(e:E):Bool:=!(cr (kd e.st) 2)
noncomputable def AK(e:E):Bool:=DF e.un
noncomputable def Gb(e:E):Bool:=Kq e.un
theorem B8(hc:CE tb sc pe e)(h:AK e=a6):swapsWith pe (a0 t) line env=pure a7:=by
 replace hc:=hc.un;unfold AK at h;generalize e.un=e at hc h;replace hc:=hc.1;unfold DF at h;rw[<- hc]at h
 cases pe<;>first|rfl|exact(aQ h).elim
theorem ST.assign(O:AK e=a6)(h:ET F m V e (λa Aa=>K .next (L4.set m i a) Aa) X):ST F m V (.assign (.v i) e) K X:=by
 refine λps T s hs=>X3lpp ps T.inv λZ Z Z d y=>X2ppp d.inv λZ Z z U B=>?_;subst z;refine wpAny_Assign_Name ((h _ y s hs).out ?_) (B8 y O);intro v Aa Ac Ai Ad u;obtain⟨a,Y,q⟩:=u;exact BJ U B Ad Y λAj Ap Ag=>⟨.next,_,Aa,Ai.trans Ap,Ag,trivial,q⟩
theorem IL(hc:CE tb sc pe e)(h:AK e=a6):swapsWith pe none line env=pure a7:=by
 replace hc:=hc.un;unfold AK at h;generalize e.un=e at hc h;replace hc:=hc.1;unfold DF at h;rw[<- hc]at h
 cases pe<;>first|rfl|exact(aQ h).elim
set_option tactic.hygienic true in
theorem let_go(h:Q' .next s):wpAny (model S.prog S.w) A (dropValue pe pos v) Q' X s:=by
 exact wpAny_dropValue h
set_option tactic.hygienic true in
theorem ST.expr(O:AK e=a6)(h:ET F m V e (λZ Aa=>K .next m Aa) X):ST F m V (.expr e) K X:=by
 refine λps d s hs=>X2lp ps d.inv λpe pos y=>?_;have hi:interactive F.env=a7:=by unfold interactive;rw[F.fk];rfl
 show wpAny _ _ (exec (.Expr pe pos) F.env) _ _ _;rw[exec_Expr (hi:=hi) (hs:=IL y O)];refine ac (dL (ac ((h _ y s hs).out ?_)));intro v Aa Ac U B u;obtain⟨a,Y,q⟩:=u;exact let_go ⟨.next,m,Aa,U,B,trivial,q⟩
end
end
section
variable {S:Sta}
structure At where
 tb:List Nat
 n:Nat
 body:List Internal.S
structure FnEx(S:Sta)(f:bg)(c:At)(o:Obj)(fd:gI)(body:List Stmt)(names:List Str):Prop where
 ho:S.g.get? f=a0 o
 hd:o.data=.func fd
 hb:fd.body=.stmts body
 hcl:fd.closure=[]
 hg:fd.globals=bY
 hbl:fd.builtins=builtinsNs
 hk:fd.scope.kind=.function
 hco:fd.scope.isCoroutine=a7
 hgen:fd.scope.isGenerator=a7
 hcd:S.g.CodeRec fd.code fd.qualname
 hnl:names.length=c.n
 hbind:∀vals:List a8,vals.length=c.n->bindArgs fd ⟨vals,[]⟩=pure (names.zip vals)
 hnm:∀j x,names[j]?=a0 x->ixS c.tb x=a0 j/\(fd.scope.names.lookup x=a0 .local\/fd.scope.names.lookup x=a0 .cell)
 hnd:((c9 0 fd.scope.names []).map (·.1)).Nodup
 hcs:CSs c.tb fd.scope.names body c.body
structure IsFn(S:Sta)(f:bg)(c:At):Prop where
 ex:∃(o:Obj)(fd:gI)(body:List Stmt)(names:List Str),FnEx S f c o fd body names
def View(S:Sta)(N:bg->Prop)(v:AV)(V:L0)(v':AV)(V':L0):Prop :=
 ∀s u,Inv S N V s->Rep S.cv s.heap (DN N V) v u->Inv S N V' s/\L2 noO noO V s V' s/\Rep S.cv s.heap (DN N V') v' u
abbrev KX:=Nat->L0->Prop
abbrev noX:KX:=λZ Z=>False
def GP(l:List Env)(b:bg):Prop:=∃e∈l,e.frame=a0 b
structure Off(S:Sta)(A:c6)(e:bg)(c:Nat)(Ak s':ag):Prop where
 fly:∃base l,A.frames=a0 l/\FlyY base l e (S.cv c) .none s'.heap/\∀b o,Ak.heap.get? b=a0 o->¬GP l b->base.get? b=a0 o
 up:Ak.heap.UpToSlots s'.heap
 rest:s'.gens=Ak.gens/\s'.drawn=Ak.drawn/\s'.os=Ak.os
noncomputable def Sta.grow(S:Sta)(g':Heap)(k:∀b o,S.g.get? b=a0 o->g'.get? b=a0 o)(x:bg)(hx:∃o vs,g'.get? x=a0 o/\o.data=.fields vs/\vs[2]?=a0 bn):Sta :=
 { S with g:=g',X:=S.X.keeps k,ng:=S.ng.keeps k,nb:=S.nb.keeps k,lim:=S.lim.keeps k,sm:=(by refine X1p S.sm λo e=>?_;exact⟨o,k _ _ e⟩),hx:=a0 x,hxo:=λy e=>by obtain rfl:=ae e;exact hx }
inductive PCv(S:Sta)(N:bg->Prop)(A:c6)(V:L0)(s:ag)(Q:AV->L0->Prop)(v:a8)(s':ag):Prop
 |mk (av:AV)(V':L0)(st:L2 (Frm A) noO V s V' s')(i:Inv S N V' s')(r:Rep S.cv s'.heap (DN N V') av v)(q:Q av V'):PCv S N A V s Q v s'
inductive PCe(S:Sta)(N:bg->Prop)(A:c6)(V:L0)(s:ag)(X:KX)(e:a8)(s':ag):Prop
 |mk (ea:bg)(c:Nat)(V':L0)(Ak:ag)(he:e=.ref ea)(o:Off S A ea c Ak s')(st:L2 (Frm A) noO V s V' Ak)(i:Inv S N V' Ak)(x:X c V'):PCe S N A V s X e s'
def Mi(S:Sta)(k:Nat)(f:a8)(avs:List AV)(V:L0)(Q:AV->L0->Prop)(X:KX):Prop :=
 ∀(N:bg->Prop)(A:c6) vals s,Room S N k A->Inv S N V s->RepL S.cv s.heap (DN N V) avs vals ->
  codeAny (model S.prog S.w) A (.call f ⟨vals,[]⟩) (λr s'=>match r with
   |.ok (.ret v)=>PCv S N A V s Q v s'
   |.ok _=>False
   |.error e=>PCe S N A V s X e s') s
theorem Mi.mono(h:Mi S k f avs V Q X)(q:∀a V,Q a V->Q' a V)(x:∀c V,X c V->X' c V):Mi S k f avs V Q' X' :=
 λN A vals s y hi U=>dH (h N A vals s y hi U) λr s' z=>by
  cases r with
  |error e=>obtain⟨ea,c,V',Ak,O,B,Y,u,T⟩:=z;exact⟨ea,c,V',Ak,O,B,Y,u,x _ _ T⟩
  |ok fl =>
   cases fl with
   |ret v=>obtain⟨av,V',a,b,c,d⟩:=z;exact⟨av,V',a,b,c,q _ _ d⟩
   |_=>exact z
inductive XF(F:Fx S)(m:Nat->Option AV)(X:KX)(e:a8)(s':ag):Prop
 |mk (ea:bg)(c:Nat)(V':L0)(Ak:ag)(he:e=.ref ea)(o:Off S F.A ea c Ak s')(h:F.St m V' Ak)(x:X c V'):XF F m X e s'
inductive XR(F:Fx S)(X:KX)(e:a8)(s':ag):Prop
 |mk (ea:bg) (c:Nat) (V':L0) (Ak:ag) (m':L4) (he:e=.ref ea) (h:F.St m' V' Ak) (x:X c V')
  (o:Off S F.A ea c Ak s'\/∃args,Heap.MadeExcOf Ak.heap s'.heap ea (S.cv c) args/\s'.gens=Ak.gens/\s'.drawn=Ak.drawn/\s'.os=Ak.os):XR F X e s'
theorem XF.up(h:XF F m X e s'):XR F X e s':=by
 obtain⟨T,c,V',Ak,O,z,Y,y⟩:=h;exact⟨T,c,V',Ak,m,O,Y,y,.inl z⟩
section
variable {F:Fx S}{m:Nat->Option AV}{V:L0}{Q:AV->L0->Prop}
theorem CT.own(h:Mi S k f avs V Q X)(z:k<=F.k):CT F m V f avs Q (XF F m X):=by
 intro vals s hs U;have room:Room S F.N k F.A:=⟨F.room.hh,F.room.fr,by have:=F.room.dp;exact lin [k,F.k,F.A.depth] [] (.c (.A V2 (.M 2 V0)) Md) [.B 2 V0 V1,.c (.A V2 (.M 2 V1)) Md] rfl z this,by have:=F.room.un;exact lin [k,F.k,F.A.units] [] (.c (.A V2 (.M 20 V0)) BI) [.B 20 V0 V1,.c (.A V2 (.M 20 V1)) BI] rfl z this⟩
 refine wpAny_call (dH (h F.N F.A vals s room hs.inv U) λr s' x=>?_)
 cases r with
 |error e =>
  obtain⟨d,c,V',Ak,O,u,Y,y,T⟩:=x;exact⟨d,c,V',Ak,O,u,hs.to Y y (λZ h=>h),T⟩
 |ok fl =>
  cases fl with
  |ret v =>
   obtain⟨av,V',st,i,r,q⟩:=x;exact⟨V',st.mono (λZ h=>h.elim),hs.to st i (λZ h=>h),av,r,q⟩
  |_=>exact x
end
structure Top(F:Fx S):Prop where
 top:∃l,F.A.frames=a0 (F.env::l)
 frame:F.env.frame=a0 F.env.locals
theorem Ds{h base:Heap}:∀{l:List Env},(∀e∈l,e.scope.kind≠.module/\∃L o,e.frame=a0 L/\base.get? L=aa/\h.get? L=a0 o/\∀vs,o.data≠.fields vs)->h.FunFrames base l
 |[],_=>trivial
 |e::l,k=>⟨(k e (.head _)).1,(k e (.head _)).2,Ds λe y=>k e (.tail _ y)⟩
theorem L2.hide(x:L2 P noO V s V' Ak)(z:s.heap.get? L=aa):L2 P noO V s V' { Ak with heap:=Ak.heap.hide L }:=by
 have ne:∀{b o},s.heap.get? b=a0 o->b≠L:=λe q=>by rw[q,z]at e;exact nS e
 have y:∀{b o},b≠L->Ak.heap.get? b=a0 o->(Ak.heap.hide L).get? b=a0 o:=λn e=>(Heap.hide_ne _ n).trans e;refine⟨⟨λb o e d=>y (ne e) (x.ext.obj b o e d)⟩,λb o e p U d=>?_,x.dom,λb o e=>?_⟩
 .refine X1pp (x.frm b o e p U d) λu O r=>?_;exact⟨u,y (ne e) O,r⟩
 .refine X1p (x.there b o e) λu O=>?_;exact⟨u,y (ne e) O⟩
theorem Inv.hide(x:Inv S N' V Ak)(O:∀a,N a->N' a)(u:N' L)(B:¬N L)(Y:S.g.get? L=aa):Inv S N V { Ak with heap:=Ak.heap.hide L }:=by
 have y:∀{b o},b≠L->Ak.heap.get? b=a0 o->(Ak.heap.hide L).get? b=a0 o:=λn e=>(Heap.hide_ne _ n).trans e;exact⟨λb o e=>y (λq=>by rw[q,Y]at e;exact nS e) (x.keep b o e),x.gens,x.drawn,x.os,x.σg,λa d q=>x.σN a d (O a q),λa q=>(X1pp (x.Nin a (O a q)) λo e nf=>⟨o,y (λz=>B (z▸q)) e,nf⟩),λa o e=>((x.rep a o e).ext (⟨λb T eb d=>y (λz=>d (.inr (z▸u))) eb⟩:Ext (DN N' V) Ak.heap (Ak.heap.hide L)) (λb q=>.inl (q.imp id (O b))) λT U=>y (λz=>x.σN a (by unfold Dom;rw[e];simp) (z▸u)) U)⟩
theorem KN{F:Fx S}{A:c6}{N:bg->Prop}{X:KX}{e:a8}{s s':ag}{V:L0}{l:List Env}{E:a8->ag->Prop}(hA:F.A.frames=a0 (F.env::l))(hl:A.frames=a0 l)(d:F.env.frame=a0 F.env.locals)
  (hN:F.N=λa=>N a\/Own F.env a) (hb:F.b=(V,s)) (hPn:∀a,F.P a->Frm A a\/s.heap.get? a=aa) (z:∀a,N a->∃o,s.heap.get? a=a0 o) (x:XR F X e s') :
  wpAny (model S.prog S.w) F.A (leaving F.env e) (λZ=>PCe S N A V s X e) E s':=by
 obtain⟨ea,c,V',Ak,m',rfl,st,hX,O⟩:=x;have sL:s.heap.get? F.env.locals=aa:=by have:=st.new _ (.inl rfl);rw[hb]at this;exact this
 have NL:F.N F.env.locals:=st.own _ (.inl rfl);have nL:¬N F.env.locals:=λq=>by refine X1p (z _ q) λo e=>?_;rw[sL]at e;exact nS e
 have gL:S.g.get? F.env.locals=aa:=st.gb _ (by rwa [hb])
 have stp:L2 (Frm A) noO V s V' { Ak with heap:=Ak.heap.hide F.env.locals }:=by
  have f:=st.frm;rw[hb]at f;exact(L2.narrow f hPn).hide sL
 have inv:Inv S N V' { Ak with heap:=Ak.heap.hide F.env.locals }:=st.inv.hide (λa q=>by rw[hN];exact .inl q) NL nL gL
 have B:(Ak.heap.hide F.env.locals).UpToSlots Ak.heap:=io λb o e=>Heap.of_hide e;have u:∀{b o},(Ak.heap.hide F.env.locals).get? b=a0 o->b≠F.env.locals:=λe q=>by rw[q,Heap.hide_self]at e;exact nS e
 rcases O with⟨⟨base,l',el,hf,U⟩,up,hr⟩|⟨args,hm,hr⟩
 .rw[hA]at el;obtain rfl:=ae el
  refine KM hA d hf λh' y T=>⟨ea,c,V',{ Ak with heap:=Ak.heap.hide F.env.locals },rfl,⟨⟨base,l,hl,y,λb o e nf=>U b o (Heap.of_hide e) ?_⟩,(B.trans up).trans T,hr⟩,stp,inv,hX⟩
  refine λhR1=>X1pp hR1 λev Y q=>?_
  rcases az.mp Y with rfl|Y
  .rw[d]at q;exact u e (ae q).symm
  .exact nf ⟨ev,Y,q⟩
 .refine X1pp F.room.fr λl2 el2 hl2=>?_
  rw[hA]at el2;obtain rfl:=ae el2;refine Ji (base:=hideAll Ak.heap ((F.env::l).filterMap (·.frame))) hA d (λb o e=>of_hideAll _ e) (Ds λev Y=>?_) hm λh' y T=>⟨ea,c,V',{ Ak with heap:=Ak.heap.hide F.env.locals },rfl,⟨⟨_,l,hl,y,λb o e nf=>hideAll_get _ (Heap.of_hide e) ?_⟩,B.trans T,hr⟩,stp,inv,hX⟩
  .exact An (hl2 ev Y) λh1 Z0=>X1ppp Z0 λL h2 h3 Z=>X1pp (st.inv.Nin L h3) λo h4 h5=>⟨h1,L,o,h2,hideAll_none _ (d7.mpr ⟨ev,Y,h2⟩),h4,h5⟩
  .refine λq=>X1pp (d7.mp q) λev Y q=>?_
   rcases az.mp Y with rfl|Y
   .rw[d]at q;exact u e (ae q).symm
   .exact nf ⟨ev,Y,q⟩
noncomputable def DA(avs:List AV):L4:=λi=>avs[i]?
theorem JE{names:List Str}{vals:List a8}{x:Str}{v:a8}(h:(x,v)∈names.zip vals):∃j:Nat,names[j]?=a0 x/\vals[j]?=a0 v:=by
 obtain⟨j,z,e⟩:=List.mem_iff_getElem.mp h;refine⟨j,?_,?_⟩<;>simp only[List.getElem_zip,gc]at e<;>simp only[List.length_zip]at z
 .rw[ax (by omega),e.1]
 .rw[ax (by omega),e.2]
theorem bindL_at{U:Str->Option dh}:∀{names:List Str}{vals:List a8}(m:Str->Option a8){j:Nat}{x:Str}{v:a8},names.Nodup->names[j]?=a0 x->vals[j]?=a0 v->U x=a0 .local->bindL U (names.zip vals) m x=a0 v:=by
 intro names
 induction names with
 |nil=>intro vals m j x v _ h;simp at h
 |cons n r O =>
  intro vals m j x v y Y B T
  cases vals with
  |nil=>simp at B
  |cons u us =>
   simp only[List.zip_cons_cons,bindL];rw[bG]at y
   cases j with
   |zero =>
    simp only[fm,gY]at Y B;subst Y B;rw[if_pos T]
    have:∀(l:List (Str×a8))(m:Str->Option a8),(∀p∈l,p.1≠n)->bindL U l m n=m n:=by
     intro l
     induction l with
     |nil=>intro m _;rfl
     |cons p l O =>
      intro m d;obtain⟨a,b⟩:=p;simp only[bindL];rw[O _ λq hq=>d q (.tail _ hq)]
      split
      .exact if_neg λe=>d (a,b) (.head _) e.symm
      .rfl
    rw[this _ _ λp d e=>y.1 (by refine X1pp (JE (x:=p.1) (v:=p.2) d) λj z Z=>?_;rw[e]at z;exact ah z)]
    exact if_pos rfl
   |succ j=>exact O _ y.2 (by simpa using Y) (by simpa using B) T
theorem bindC_at{U:Str->Option dh}:∀{names:List Str}{vals:List a8}(m:Str->Option a8){j:Nat}{x:Str}{v:a8},names.Nodup->names[j]?=a0 x->vals[j]?=a0 v->U x≠a0 .local->bindC U (names.zip vals) m x=a0 v:=by
 intro names
 induction names with
 |nil=>intro vals m j x v _ h;simp at h
 |cons n r O =>
  intro vals m j x v y Y B T
  cases vals with
  |nil=>simp at B
  |cons u us =>
   simp only[List.zip_cons_cons,bindC];rw[bG]at y
   cases j with
   |zero =>
    simp only[fm,gY]at Y B;subst Y B;rw[if_neg T]
    have:∀(l:List (Str×a8))(m:Str->Option a8),(∀p∈l,p.1≠n)->bindC U l m n=m n:=by
     intro l
     induction l with
     |nil=>intro m _;rfl
     |cons p l O =>
      intro m d;obtain⟨a,b⟩:=p;simp only[bindC];rw[O _ λq hq=>d q (.tail _ hq)]
      split
      .rfl
      .exact if_neg λe=>d (a,b) (.head _) e.symm
    rw[this _ _ λp d e=>y.1 (by refine X1pp (JE (x:=p.1) (v:=p.2) d) λj z Z=>?_;rw[e]at z;exact ah z)]
    exact if_pos rfl
   |succ j=>exact O _ y.2 (by simpa using Y) (by simpa using B) T
def RetK(S:Sta)(Q:AV->L0->Prop):Fl->L4->L0->Prop:=λfl Z V=>∀N:bg->Prop,∃v' V',View S N (match fl with|.ret v=>v|.next=>.none) V v' V'/\Q v' V'
inductive PB(F:Fx S)(Q:AV->L0->Prop)(f:Flow)(s':ag):Prop
 |mk (fl:Fl)(m':L4)(V':L0)(h:F.St m' V' s')(r:FlR S.cv s'.heap (F.D V') f fl)(k:RetK S Q fl m' V'):PB F Q f s'
theorem Mi.body0{k:Nat}{f:bg}{c:At}{avs:List AV}{V:L0}{Q:AV->L0->Prop}{X:KX}(hf:IsFn S f c)(hn:avs.length=c.n)
  (h:∀(F:Fx S),F.k=k->Top F->∀Y:a8->ag->Prop,(∀e s,XR F X e s->Y e s)->iq (model S.prog S.w) F.A F.env Y->∀ps,CSs F.tb F.sc ps c.body->∀s,F.St (DA avs) V s->wpAny (model S.prog S.w) F.A (execs ps F.env) (PB F Q) Y s):Mi S (k+1) (.ref f) avs V Q X:=by
 refine λN A vals s O hi rl=>X4p hf.ex λo fd body names Z4=>?_;obtain⟨ho,hd,hb,hcl,hg,hbl,hk,hco,hgen,hcd,hnl,hbind,hnm,hnd,hcs⟩:=Z4;have hlen:vals.length=c.n:=rl.length.trans hn;have hkind:∀x∈names.zip vals,fd.scope.names.lookup x.1=a0 .local\/(fd.scope.names.lookup x.1=a0 .cell/\((c9 (s.heap.objs.size+1) fd.scope.names []).lookup x.1).isSome=a6):=by
  intro hR1 hx;obtain⟨x,v⟩:=hR1;refine X1pp (JE hx) λj h1 Z=>?_
  rcases(hnm j x h1).2 with q|q
  .exact .inl q
  .exact .inr ⟨q,fG _ _ _ (.inl q)⟩
 refine codeAny_call_cells (fd:=fd) (body:=body) (binds:=names.zip vals) (by have:=O.dp;unfold recursionLimit;exact lin [A.depth,k] [] (.c V0 AD) [.c (.A V0 (.M 2 (.A V1 K1))) Md] rfl this) (hi.keep _ _ ho) hd (S.lim.keeps hi.keep) (hcd.keeps hi.keep) hb (hbind vals hlen) hcl hkind (λAc B=>(X2pp B.done λAd tk Af hkeep=>?_)) hco hgen hk
 have envL:(cP fd s.heap.objs.size f).locals=s.heap.objs.size:=rfl;have U:∀a,s.heap.objs.size<=a->s.heap.get? a=aa:=λa ha=>by
  cases q:s.heap.get? a with|none=>rfl|some o=>exact absurd (ba q) (de.mpr ha)
 have T:∀a,Own (cP fd s.heap.objs.size f) a->s.heap.get? a=aa:=by
  rintro a (rfl|⟨x,hx⟩)
  .exact U _ (aB _)
  .exact U _ (cZ (B.above x a (mem_of_lookup hx)))
 have hnod:names.Nodup:=by
  rw[List.nodup_iff_pairwise_ne,List.pairwise_iff_getElem];intro i j hi hj hij e;have h1:=(hnm i _ (ax hi)).1;have h2:=(hnm j _ (ax hj)).1;rw[e,h2]at h1
  have:=ae h1
  exact lin [i,j] [] .no [.c V0 V1,.d V1 V0] rfl hij this
 have er:Ext (DN N V) s.heap Ac.heap:=Ext.of_keeps (by rwa [Af])
 have room':Room S (λa=>N a\/Own (cP fd s.heap.objs.size f) a) k (A.deeper (cP fd s.heap.objs.size f)):=by
  refine⟨O.hh,?_,?_,?_⟩
  .refine X1pp O.fr λl el hl=>⟨cP fd s.heap.objs.size f::l,?_,?_⟩
   .show (A.frames.map (cP fd s.heap.objs.size f::·))=_;rw[el];rfl
   .intro e he
    rcases az.mp he with rfl|he
    .exact⟨by show fd.scope.kind≠_;rw[hk];simp,s.heap.objs.size,rfl,.inr (.inl rfl),hi.not_g (U _ (aB _))⟩
    .refine An (hl e he) λh1 Z0=>X1ppp Z0 λL h2 h3 h4=>?_;exact⟨h1,L,h2,.inl h3,h4⟩
  .have:=O.dp;show A.depth+1+2 * k<900;exact lin [A.depth,k] [] (.c (.A (.A V0 K1) (.M 2 V1)) Md) [.c (.A V0 (.M 2 (.A V1 K1))) Md] rfl this
  .have:=O.un;show A.units+3+20 * k<9000;exact lin [A.units,k] [] (.c (.A (.A V0 K3) (.M 20 V1)) BI) [.c (.A V0 (.M 20 (.A V1 K1))) BI] rfl this
 have fc':∀x,(cP fd s.heap.objs.size f).kindOf x=a0 .cell->∃c,(cP fd s.heap.objs.size f).cells.lookup x=a0 c:=λx hx =>
  bj.mp (fG (x:=x) fd.scope.names (s.heap.objs.size+1) [] (.inl hx))
 have hPn:∀a,Frm (A.deeper (cP fd s.heap.objs.size f)) a->Frm A a\/s.heap.get? a=aa:=by
  refine λa hR1=>X1pp hR1 λl el Z1=>X1pp Z1 λe he hf=>X1pp O.fr λl' el' Z=>?_
  have:l=cP fd s.heap.objs.size f::l':=by
   have q:A.frames.map (cP fd s.heap.objs.size f::·)=a0 l:=el;rw[el']at q;exact(ae q).symm
  clear el Z1;subst this
  rcases az.mp he with rfl|he
  .exact .inr (by have q:a0 s.heap.objs.size=a0 a:=hf;obtain rfl:=ae q;exact U _ (aB _))
  .exact .inl ⟨l',el',e,he,hf⟩
 have hPN:∀a,Frm (A.deeper (cP fd s.heap.objs.size f)) a->N a\/Own (cP fd s.heap.objs.size f) a:=by
  refine λa hR1=>X1pp hR1 λl el Z2=>X1pp Z2 λe he hf=>X1pp room'.fr λl2 el2 h2=>?_;rw[el2]at el;obtain rfl:=ae el;refine An (h2 e he) λZ Z3=>X1ppp Z3 λL h3 h4 Z=>?_;rw[hf]at h3;obtain rfl:=ae h3;exact h4
 let Fc:Fx S:=⟨A.deeper (cP fd s.heap.objs.size f),c.tb,cP fd s.heap.objs.size f,(V,s),(λa=>N a\/Own (cP fd s.heap.objs.size f) a),k,room',hk,hg,hbl,fc'⟩
 have hD:∀b,DN Fc.N V b->DN N V b\/s.heap.get? b=aa:=λb hb=>hb.elim (λq=>.inl (.inl q)) λq=>q.elim (λq=>.inl (.inr q)) λq=>.inr (T b q);have st:Fc.St (DA avs) V Ac:=by
  refine⟨⟨?_,?_,?_,?_,hi.σg,(λa d q=>q.elim (hi.σN a d) λq=>by refine X1p (hi.dom_there d) λob e=>?_;rw[T a q]at e;exact nS e),λa q=>?_,λa oa e=>(hi.rep a oa e).ext er hD (by rw[Af];exact hkeep a)⟩,
   ⟨_,_,B.toInCall.ns,B.cell,λa ha=>⟨hi.not_dom (T a ha),hi.not_g (T a ha)⟩,λx y cc h1 h2=>name_of_addr B.apart (mem_of_lookup h1) (mem_of_lookup h2),λx cc h1=>eQ (B.above x cc (mem_of_lookup h1)),λx i av hx hm=>?_⟩,
   L2.of_keeps (by rwa [Af]) (λZ h=>.inl h),hPN,T,λa ha=>.inr ha,λa e=>hi.not_g e⟩
  .rw[Af];exact λb ob e=>hkeep b ob (hi.keep b ob e)
  .rw[Af];exact hi.gens
  .rw[Af];exact hi.drawn
  .rw[Af];exact hi.os
  .rcases q with q|rfl|⟨x,hx⟩
   .refine X1pp (hi.Nin a q) λob e nf=>?_;rw[Af];exact⟨ob,hkeep a ob e,nf⟩
   .refine X3ppp B.toInCall.ns λob Z Z e dd Z=>?_;exact⟨ob,e,λvs z=>by rw[dd]at z;exact nDf rfl z⟩
   .refine X1pp (B.cell x a hx) λob e dd=>?_;exact⟨ob,e,λvs z=>by rw[dd]at z;exact nDf rfl z⟩
  .refine X1pp (rl.get hm) λv hv rv=>?_
   have hin':i<names.length:=by
    have:i<vals.length:=by
     rcases bO i vals.length with q|q
     .exact q
     .rw[aZ q]at hv;exact nS hv
    exact lin [names.length,c.n,vals.length,i] [] (.c V3 V0) [.D (-1) V0 V1,.d V2 V1,.c V3 V2] rfl hnl hlen this
   have hxi:=ax hin';have hxx:names[i]=x:=BO (hnm i _ hxi).1 hx;rw[hxx]at hxi;have rv':Rep S.cv Ac.heap (DN Fc.N V) av v:=rv.ext er hD;have kd:(cP fd s.heap.objs.size f).kindOf x=fd.scope.names.lookup x:=rfl
   rcases(hnm i x hxi).2 with q|q
   .show LocAt _ _ _ _ _ _ ((cP fd s.heap.objs.size f).kindOf x) _ _
    rw[kd,q];exact⟨v,bindL_at _ hnod hxi hv (kd.trans q),rv'⟩
   .show LocAt _ _ _ _ _ _ ((cP fd s.heap.objs.size f).kindOf x) _ _
    rw[kd,q];exact X1p (bj.mp (fG (x:=x) fd.scope.names (s.heap.objs.size+1) [] (.inl q))) λcc hcc=>⟨v,cc,hcc,bindC_at _ hnod hxi hv (by rw[kd,q];simp),rv'⟩
 refine X1pp O.fr λlf elf Z=>?_;have top:Fc.A.frames=a0 (Fc.env::lf):=by show (A.frames.map (cP fd s.heap.objs.size f::·))=_;rw[elf];rfl
 have hbody:=h Fc rfl ⟨⟨lf,top⟩,rfl⟩;have hcs':CSs Fc.tb Fc.sc body c.body:=hcs;refine aU (hbody _ (λe s' hx=>KN (N:=N) top elf rfl rfl rfl hPn (λa q=>by refine X1pp (hi.Nin a q) λo e Z=>?_;exact⟨o,e⟩) hx) PassesOwn.leaving _ hcs' Ac st) (λfl s' hq=>?_) λe s' hx=>hx
 obtain⟨fl',m',V',h',hfr,hret⟩:=hq;refine X2pp (hret N) λv' V'' hview hQ=>?_
 have hi':Inv S N V' s':=⟨h'.inv.keep,h'.inv.gens,h'.inv.drawn,h'.inv.os,h'.inv.σg,λa d q=>h'.inv.σN a d (.inl q),λa q=>h'.inv.Nin a (.inl q),
  λa oa e=>(h'.inv.rep a oa e).ext (Ext.refl _ _) (λb q=>.inl (q.imp id .inl)) λZ q=>q⟩
 have fin:∀u,Rep S.cv s'.heap (DN Fc.N V') (match fl' with|.ret v=>v|.next=>.none) u->PCv S N A V s Q u s':=by
  exact λu ru=>Bo (hview s' u hi' (ru.less λa q=>q.imp id .inl)) λi2 st2 r2=>⟨v',V'',(L2.narrow h'.frm hPn).trans st2.any,i2,r2,hQ⟩
 cases fl' with
 |next =>
  cases fl with
  |next=>exact fin .none .none
  |_=>exact hfr.elim
 |ret v =>
  cases fl with|ret u=>exact fin u hfr|_=>exact hfr.elim
theorem Mi.body{k:Nat}{f:bg}{c:At}{y:List AV}{V:L0}{Q:AV->L0->Prop}(T:IsFn S f c)(O:y.length=c.n)
  (h:∀(F:Fx S),F.k=k->Top F->∀Y:a8->ag->Prop,(∀e s,XR F X e s->Y e s)->iq (model S.prog S.w) F.A F.env Y->SsT F (DA y) V c.body (RetK S Q) Y):Mi S (k+1) (.ref f) y V Q X :=
 Mi.body0 T O λF U ht Y z B ps d s hs=>aU (h F U ht Y z B ps d s hs) (λ_ _ ⟨fl,m',V',_,h1,h2,h3⟩=>⟨fl,m',V',h1,h2,h3⟩) λZ Z e=>e
end
section
variable {S:Sta}
def Its(h:Heap)(W:bg->Prop):Prop:=∀a,W a->∃o,h.get? a=a0 o/\Dk o
theorem Its.seq{W:bg->Prop}(x:Its h W){a:bg}{o:Obj}(e:h.get? a=a0 o)(u:∀vs,o.data≠.fields vs):¬W a:=λq=>by
 refine X1ppp (x a q) λz y Z d=>X1p d λvs B=>?_;rw[e]at y;obtain rfl:=ae y;exact u vs B
theorem Its.turn{h h':Heap}{D W:bg->Prop}(it:Its h W)(k:∀b o,¬W b->h.get? b=a0 o->h'.get? b=a0 o)(b:bg)(o:Obj)(e:h.get? b=a0 o)(y:¬Dk o)(d:¬D b):h'.get? b=a0 o/\¬D b :=
 ⟨k b o (λq=>by refine X1pp (it b q) λz u h'=>?_;exact y (ae (u.symm.trans e)▸h')) e,d⟩
section
variable {cv:Nat->a8}{h h':Heap}{D W:bg->Prop}
theorem Rep.it(it:Its h W)(k:∀b o,¬W b->h.get? b=a0 o->h'.get? b=a0 o){v:a8}(r:Rep cv h D av v):Rep cv h' D av v :=
 r.turn (it.turn k)
theorem RepL.it(it:Its h W)(k:∀b o,¬W b->h.get? b=a0 o->h'.get? b=a0 o){v:List a8}(r:RepL cv h D av v):RepL cv h' D av v :=
 r.turn (it.turn k)
theorem RepD.it(it:Its h W)(k:∀b o,¬W b->h.get? b=a0 o->h'.get? b=a0 o){v:List bT}(r:RepD cv h D av v):RepD cv h' D av v :=
 r.turn (it.turn k)
theorem RepF.it(it:Its h W)(k:∀b o,¬W b->h.get? b=a0 o->h'.get? b=a0 o){v:List bT}(r:RepF cv h D av v):RepF cv h' D av v :=
 r.turn (it.turn k)
theorem Mm.it(it:Its h W)(k:∀b o,¬W b->h.get? b=a0 o->h'.get? b=a0 o)(r:Mm cv h D o a):Mm cv h' D o a:=by
 induction r with|list e r=>exact .list (k _ _ (it.seq e (by intro _ h;exact nDf rfl h)) e) (r.it it k)|dict e u n r=>exact .dict (k _ _ (it.seq e (by intro _ h;exact nDf rfl h)) e) u n (r.it it k)|inst e n=>exact .inst (k _ _ (it.seq e (by intro _ h;exact nDf rfl h)) e) n|attrs e r=>exact .attrs (k _ _ (it.seq e (by intro _ h;exact nDf rfl h)) e) (r.it it k)
end
structure ItStep(W:bg->Prop)(s s':ag):Prop where
 keep:∀b o,¬W b->s.heap.get? b=a0 o->s'.heap.get? b=a0 o
 rest:s'.gens=s.gens/\s'.drawn=s.drawn/\s'.os=s.os
theorem St.it{N P W:bg->Prop}{b:L0×ag}{m:L4}{V:L0}{s s':ag}(hs:Internal.St S tb env N P b m V s)(it:Its s.heap W)
  (new:∀a,W a->b.2.heap.get? a=aa) (y:∀a,W a->¬N a) (st:ItStep W s s'):Internal.St S tb env N P b m V s':=by
 obtain⟨B,cm,n,c,O,ap,cl,r⟩:=hs.loc;have T:∀a,Own env a->¬W a:=by
  rintro a (rfl|⟨x,u⟩)
  .refine X3ppp n λo es ep e d Z=>?_;exact it.seq e (by rw[d];intro _ h;exact nDf rfl h)
  .refine X1pp (c x a u) λo e d=>?_;exact it.seq e (by rw[d];intro _ h;exact nDf rfl h)
 refine⟨⟨λa o e=>st.keep a o (λq=>by rw[hs.gb a (new a q)]at e;exact nS e) (hs.inv.keep a o e),st.rest.1.trans hs.inv.gens,st.rest.2.1.trans hs.inv.drawn,st.rest.2.2.trans hs.inv.os,hs.inv.σg,hs.inv.σN,λa h=>?_,λa o e=>(hs.inv.rep a o e).it it st.keep⟩,?_,?_,hs.pN,hs.new,hs.own,hs.gb⟩
 .refine X1pp (hs.inv.Nin a h) λo e nf=>?_;exact⟨o,st.keep a o (λq=>y a q h) e,nf⟩
 .refine⟨B,cm,?_,λx cc u=>?_,O,ap,cl,λx i av u U=>?_⟩
  .refine X3pp n λo es ep e d=>?_;exact⟨o,es,ep,st.keep _ _ (T _ (.inl rfl)) e,d⟩
  .refine X1pp (c x cc u) λo e d=>?_;exact⟨o,st.keep _ _ (T _ (.inr ⟨x,u⟩)) e,d⟩
  .exact LocAt.map (r x i av u U) (λh2=>h2.it it st.keep) (λZ Y=>Y) (λZ Y=>Y)
 .exact hs.frm.over λc e o=>st.keep c o λz=>e.elim λo e=>Al (new c z) e
structure Walk(F:Fx S)(I:bg)(items:List AV)(t:aT)(W:bg->Prop)(J:Nat->L0->ag->Prop)(ok:L0->L0->Prop):Prop where
 its:∀i V s,J i V s->Its s.heap W
 stays:∀i m m' V s V' s' (O:bg->Prop),(∀a,O a->F.N a)->(∀a,W a->¬F.N a)->J i V s->F.St m V s->L2 F.P O V s V' s'->F.St m' V' s'->ok V V'->J i V' s'
 next:∀i x m V s (GO:ag->Prop) (Q:a8->ag->Prop) (X:a8->ag->Prop),items[i]?=a0 x->F.St m V s->J i V s ->
  (∀v Aj,ItStep W s Aj->Rep S.cv Aj.heap (F.D V) x v->J (i+1) V Aj->Q v Aj) ->
  wpAny (model S.prog S.w) F.A (pyNext (.ref I)) (λr Ac=>match r with
   |none=>GO Ac
   |some v=>wpAny (model S.prog S.w) F.A (letOwnedTupleGo t (.ref I) v) (λZ Aj=>Q v Aj) X Ac) X s
 self:∀i V s (Q:a8->ag->Prop) (X:a8->ag->Prop),J i V s->Q (.ref I) s->wpAny (model S.prog S.w) F.A (pyIter (.ref I)) Q X s
 done:∀m V s (Q:Option a8->ag->Prop) (X:a8->ag->Prop),F.St m V s->J items.length V s->(∀Ac,ItStep W s Ac->Q none Ac)->wpAny (model S.prog S.w) F.A (pyNext (.ref I)) Q X s
set_option tactic.hygienic true in
def Mc(F:Fx S)(p:Pat)(body:List Internal.S)(ok:L0->L0->Prop)(K:Fl->L4->L0->Prop)(X:a8->ag->Prop):List AV->L4->L0->Prop
 |[],m,V=>K .next m V
 |x::r,m,V=>PT F m V p x (λAo Aa=>SsT F Ao Aa body (λfl Ar Ab=>match fl with
   |.next=>ok V Ab/\Mc F p body ok K X r Ar Ab
   |.ret v=>K (.ret v) Ar Ab) X) X
section
variable {F:Fx S}{V:L0}{X:a8->ag->Prop}{K:Fl->L4->L0->Prop}
inductive FInv(F:Fx S)(p:Pat)(body:List Internal.S)(ok:L0->L0->Prop)(K:Fl->L4->L0->Prop)(X:a8->ag->Prop)(items:List AV)(J:Nat->L0->ag->Prop)(AG:L0)(Ak:ag)(n:Nat)(s':ag):Prop
 |mk (i:Nat)(m':L4)(V':L0)(hn:n+i=items.length+1)(hi:i<=items.length)(st:L2 F.P F.O AG Ak V' s')(h:F.St m' V' s')(hJ:J i V' s')(l:Mc F p body ok K X (items.drop i) m' V'):FInv F p body ok K X items J AG Ak n s'
set_option tactic.hygienic true in
theorem forLoopT{W:bg->Prop}{J:Nat->L0->ag->Prop}{ok:L0->L0->Prop}{p:Pat}{body:List Internal.S}{pb:List Stmt}{m:L4}{Ak s:ag}{AG:L0}
  (Wk:Walk F I items t W J ok) (hX:iq (model S.prog S.w) F.A F.env X) (hp:CP F.tb F.sc t p) (hb:CSs F.tb F.sc pb body) (new:∀a,W a->Ak.heap.get? a=aa)
  (st:L2 F.P F.O AG Ak V s) (hs:F.St m V s) (bN:∀a,W a->F.b.2.heap.get? a=aa) (hN:∀a,W a->¬F.N a) (hJ:J 0 V s) (h:Mc F p body ok K X items m V) :
  codeAny (model S.prog S.w) F.A (.forLoop t (.ref I) pb [] F.env) (λr s'=>match r with
   |.ok f=>PS F AG Ak K f s'
   |.error e=>cameBackBy (model S.prog S.w) F.A F.env X e s') s:=by
 refine codeAny_forLoop_any (FInv F p body ok K X items J AG Ak) ?_ (items.length+1) ⟨0,m,V,rfl,cR _,st,hs,hJ,h⟩;intro n Ac T;obtain⟨i,Ao,Aa,hn,hi,Ai,Ad,D3,hl⟩:=T;have its:=Wk.its i Aa Ac D3;have stp:∀{Aj:ag},ItStep W Ac Aj->L2 F.P F.O AG Ak Aa Aj:=λq=>Ai.over λc e o=>q.keep c o λz=>e.elim λo e=>Al (new c z) e
 by_cases Y:i<items.length
 .obtain⟨x,hx⟩:∃x,items[i]?=a0 x:=⟨_,ax Y⟩
  have hd:items.drop i=x::items.drop (i+1):=by
   rw[List.drop_eq_getElem_cons Y];rw[ax Y]at hx;obtain rfl:=ae hx;rfl
  rw[hd]at hl;refine Wk.next i x Ao Aa Ac _ _ _ hx Ad D3 λv Aj y rv Ie=>?_;have Ag:F.St Ao Aa Aj:=Ad.it its bN hN y;refine gp hX (aU (hl t hp v Aj Ag rv) ?_ λZ Z e=>e);intro _ BR T;obtain⟨m₃,As,Bb,AY,hq⟩:=T;refine gp hX (aU (hq pb hb BR AY) ?_ λZ Z e=>e);intro f BQ T;obtain⟨fl,U,Dl,Cw,BA,hf,B⟩:=T;have st':=((stp y).trans Bb).trans Cw
  cases fl with
  |next =>
   cases f with
   |next=>exact⟨n - 1,lin [n - 1,n] [] (.c V0 V1) [.d (.A V0 K1) V1] rfl (ao (lin [n,i,items.length] [] (.b K1 V0) [.D (-1) (.A V0 V1) (.A V2 K1),.c V1 V2] rfl hn Y)),i+1,U,Dl,aq (lin [n,i,items.length,n - 1] [] (.b (.A V3 (.A V1 K1)) (.A V2 K1)) [.d (.A V0 V1) (.A V2 K1),.d (.A V3 K1) V0] rfl hn (ao (lin [n,i,items.length] [] (.b K1 V0) [.D (-1) (.A V0 V1) (.A V2 K1),.c V1 V2] rfl hn Y))) (lin [n,i,items.length,n - 1] [] (.b (.A V2 K1) (.A V3 (.A V1 K1))) [.D (-1) (.A V0 V1) (.A V2 K1),.b V0 (.A K1 V3)] rfl hn (au.mp (aB ((n) - (1))))),Y,st',BA,Wk.stays _ _ _ _ _ _ _ F.O Ag.own hN Ie Ag (Bb.trans Cw) BA B.1,B.2⟩
   |_=>exact hf.elim
  |ret v =>
   cases f with|ret u=>exact⟨.ret v,U,Dl,st',BA,hf,B⟩|_=>exact hf.elim
 .have hi':i=items.length:=by exact aq (lin [i,items.length] [] (.b V0 V1) [.b V0 V1] rfl hi) (lin [i,items.length] [] (.b V1 V0) [.j V0 V1] rfl Y)
  clear hn hi Y;subst hi';rw[List.drop_length]at hl;exact Wk.done Ao Aa Ac _ _ Ad D3 λAj y=>gm ⟨.next,Ao,Aa,stp y,Ad.it its bN hN y,trivial,hl⟩
end
end
section
set_option backward.match.sparseCases true
variable {S:Sta}
set_option tactic.hygienic true in
theorem Bh(U:s.heap.get? I=a0 o)(d:o.cls=.type T)
  (O:["enumerate", "zip", "dict_itemiterator", "dict_reverseitemiterator", "odict_iterator", "itertools.zip_longest", "itertools.pairwise"].contains T=a7) (h:Q () s) :
  wpAny (model S.prog S.w) A (letOwnedTupleGo t (.ref I) v) Q X s:=by
 have u:wpAny (model S.prog S.w) A (do
  let (.ref r,.ref a):=((bK I,v):a8×a8)|return
  let o <- load r
  match o.cls,o.data with
  |.type n,.fields vs =>
   if ["enumerate", "zip", "dict_itemiterator", "dict_reverseitemiterator", "odict_iterator", "itertools.zip_longest", "itertools.pairwise"].contains n && vs[0]? == a0 (dP a) then
    rule "for.unpacks-the-owned-tuple"
    updateField r 0 .none
  |_,_=>pure ()) Q X s:=by
  cases v with
  |ref a =>
   refine ac (wpAny_load U ?_);rw[d]
   split
   .rename_i n vs y B
    cases y
    rw[O,Bool.false_and,if_neg aQ];exact ai h
   .exact ai h
  |_=>exact ai h
 cases t<;>first|exact u|exact ai h
theorem Its.notDom{N W:bg->Prop}{V:L0}{s:ag}(x:Its s.heap W)(hi:Inv S N V s){a:bg}(q:W a):¬Dom V a:=λd=>by
 cases e:V a with
 |none=>exact d e
 |some o =>
  cases hi.rep a o e with|list e _=>exact x.seq e (by intro _ h;exact nDf rfl h) q|dict e _ _ _=>exact x.seq e (by intro _ h;exact nDf rfl h) q|inst e _=>exact x.seq e (by intro _ h;exact nDf rfl h) q|attrs e _=>exact x.seq e (by intro _ h;exact nDf rfl h) q
section
variable {F:Fx S}{m m':L4}{V V':L0}{s s':ag}{X:a8->ag->Prop}{Q:AV->L0->Prop}
theorem Its.notOwn{W:bg->Prop}(x:Its s.heap W)(hs:F.St m V s){a:bg}(q:W a):¬F.O a:=by
 obtain⟨U,z,n,c,_⟩:=hs.loc
 rintro (rfl|⟨y,u⟩)
 .refine X3ppp n λo es ep e d Z=>?_;exact x.seq e (by rw[d];intro _ h;exact nDf rfl h) q
 .refine X1pp (c y a u) λo e d=>?_;exact x.seq e (by rw[d];intro _ h;exact nDf rfl h) q
theorem Its.still{O W:bg->Prop}(x:Its s.heap W)(hs:F.St m V s)(y:∀a,O a->F.N a)(T:∀a,W a->¬F.N a)(st:L2 F.P O V s V' s'){a:bg}(q:W a){o:Obj}(e:s.heap.get? a=a0 o):s'.heap.get? a=a0 o :=
 st.ext.obj a o e (λd=>d.elim (x.notDom hs.inv q) λz=>T a q (z.elim (y a) (hs.pN a)))
def Moves(F:Fx S)(V:L0)(Ac:ag)(J:Fx S->Nat->L0->ag->Prop):Prop :=
 ∀(A0:Fx S)(Ab:L0)(Aj:ag),(∀b o,Ac.heap.get? b=a0 o->Aj.heap.get? b=a0 o)->(∀b,A0.D Ab b->F.D V b\/Ac.heap.get? b=aa)->(∀b o,V b=a0 o->Ab b=a0 o)->J A0 0 Ab Aj
theorem Moves.here{J:Fx S->Nat->L0->ag->Prop}(h:Moves F V s J):J F 0 V s:=h F V s (λZ Z e=>e) (λZ d=>.inl d) λZ Z e=>e
inductive PIter(F:Fx S)(V:L0)(s:ag)(items:List AV)(ok:L0->L0->Prop)(t:aT)(it:a8)(Ac:ag):Prop
 |mk (I:bg) (W:bg->Prop) (J:Fx S->Nat->L0->ag->Prop) (hit:it=.ref I) (wk:∀A0:Fx S,Walk A0 I items t W (J A0) ok) (kp:∀b o,s.heap.get? b=a0 o->Ac.heap.get? b=a0 o) (hs:∃h' tk,Ac={ s with heap:=h',toks:=tk })
  (nw:∀a,W a->s.heap.get? a=aa) (mv:Moves F V Ac J):PIter F V s items ok t it Ac
def Mn(F:Fx S)(V:L0)(a:AV)(items:List AV)(ok:L0->L0->Prop):Prop :=
 ∀m va s t (X:a8->ag->Prop),F.St m V s->Rep S.cv s.heap (F.D V) a va->wpAny (model S.prog S.w) F.A (pyIter va) (PIter F V s items ok t) X s
def okL(a:AV)(V V':L0):Prop:=match a with
 |.loc ad _=>V' ad=V ad
 |_=>True
theorem okL_dl(h:dl V a=a0 l)(o:okL a V V'):dl V' a=a0 l:=by
 cases a with|loc ad z=>exact(congrArg (·.bind Mg.list?) (show V' ad=V ad from o)).trans h|_=>exact h
theorem Mn.list(hq:S.hx=aa){a:AV}{l:List AV}(h:dl V a=a0 l):Mn F V a l (okL a):=by
 refine λm va s t X hs ra=>X3ppp (ra.lst hs.inv h) λad vs n Z0 e rl=>?_;subst Z0;have hL:s.heap.IsList ad vs.toArray:=⟨_,e,rfl,n,rfl⟩;refine fH hL ⟨s.heap.objs.size,(·=s.heap.objs.size),λA0 i V' s'=>s'.heap.IsListIter s.heap.objs.size ad i/\Rep S.cv s'.heap (A0.D V') a (.ref ad)/\dl V' a=a0 l,rfl,?_,Ax _ _,⟨_,_,rfl⟩,λb q=>by rw[q];exact Ay _,?_⟩
 .have y:∀i (s':ag),s'.heap.IsListIter s.heap.objs.size ad i->Its s'.heap (·=s.heap.objs.size):=by
   refine λi s' hR1 b hR2=>X1ppp hR1 λo e c d=>?_;subst hR2;exact⟨o,e,⟨_,c,by decide⟩,_,d⟩
  refine λA0=>⟨λi V' s' U=>y i s' U.1,λi Ao Ar Aa Ac Ab Aj O hO hN U Ad st Ag o=>⟨?_,U.2.1.step st hO Ad.pN,okL_dl U.2.2 o⟩,λi x Ao Aa Ac GO Q X hx Ad U hQ=>?_,λi Aa Ac Q X U hQ=>wpAny_pyIter_listiter U.1 hQ,λAo Aa Ac Q X Ad U hQ=>?_⟩
  .have z:=y i Ac U.1
   exact X1ppp U.1 λo e c d=>⟨o,z.still Ad hO hN st rfl e,c,d⟩
  .refine Bo U λB u hl=>X3ppp (u.lst Ad.inv hl) λad' ws n' e1 e' Y=>?_
   obtain rfl:=bE e1;refine X1pp (Y.get hx) λv hv rv=>?_;have z:=y i Ac B;refine wpAny_pyNext_list_item B (items:=ws.toArray) ⟨_,e',rfl,n',rfl⟩ (x:=v) (by simpa using hv) λh' T hsb=>?_
   have ist:ItStep (·=s.heap.objs.size) Ac { Ac with heap:=h' }:=⟨λb o q e=>hsb.extBut b o q e,rfl,rfl,rfl⟩
   refine X1ppp (id T) λo eo co Z=>Bh eo co (by decide) (hQ v _ ist (rv.it z ist.keep) ⟨T,u.it z ist.keep,hl⟩)
  .refine Bo U λB u hl=>X3ppp (u.lst Ad.inv hl) λad' ws n' e1 e' Y=>?_
   obtain rfl:=bE e1;exact wpAny_pyNext_list_end (A0.room.quiet hq) B (items:=ws.toArray) ⟨_,e',rfl,n',rfl⟩ (by simp[Y.length]) λh' he=>hQ _ ⟨λb o q e=>he b o q e,rfl,rfl,rfl⟩
 .refine λA0 Ab Aj kp hD ks=>⟨⟨_,kp _ _ (aE _ rfl),rfl,rfl⟩,?_,?_⟩
  .exact An (hs.grow (Ax s.heap { cls:=.type "list_iterator",data:=.fields #[.ref ad,.int 0 0] }) s.toks) λh1 st=>(ra.st st.any h1).ext (Ext.of_keeps kp) hD
  .cases a with
   |loc ad' ii =>
    exact X1pp (AC (show (V ad').bind Mg.list?=a0 l from h)) λo e' h'=>(congrArg (·.bind Mg.list?) (ks _ _ e')).trans h'
   |_=>exact h
noncomputable def A1(a c:Int)(n:Nat):List AV:=(bq n).map λi:Nat=>AV.int (a+c * (i:Int))
end
end
section
variable {S:Sta}
section
variable {A:c6}{E:a8->ag->Prop}{s:ag}
def DictE(h:Heap)(d:bg)(es:Array bT)(ep:Nat):Prop:=h.get? d=a0 (AU es ep)
theorem DictE.typeIs(x:DictE s.heap d es ep):s.TypeIs (.ref d) "dict":=⟨_,x,rfl⟩
theorem Iu(y:(d == cG)=a7)(T:DictE s.heap d es ep)
  (u:Q (.ref s.heap.objs.size) { s with heap:=s.heap.push { cls:=.type "dict_keyiterator",data:=.fields #[.ref d,.int 0 0,.int es.size 0,.int ep 0] } }) :
  wpAny (model S.prog S.w) A (pyIter (.ref d)) Q E s:=by
 have z:=T.typeIs;refine wpAny_pyIter_slot z fJ (cX fJ z PySem.F.entry_dict_iter ?_ (PySem.F.args_dict_iter_1 _));unfold dE.«dict.__iter__»;refine ac ?_;unfold Builtin.Dict.dictSlotNone;refine ac (cV z ?_);show wpAny _ _ (pure (bK d)) _ _ s;refine ai ?_;show wpAny _ _ (ez d >>= _) _ _ s;unfold ez;rw[if_neg (by rw[y];exact aQ)]
 refine ac (ai (ac (bL T rfl (ac (e8 T rfl (ac (c8 (ai ⟨_,rfl, "dict_keyiterator",_,⟨_,aE _ rfl,rfl⟩,cu.lookup,?_⟩))))))))
 simpa[dP]using u
theorem It(u:s.heap.IsKeyIter it d i es.size ep)
  (z:DictE s.heap d es ep) (B:es[i]?=a0 e)
  (hQ:∀h',h'.IsKeyIter it d (i+1) es.size ep->iE it s.heap h'->Q (a0 e.key) { s with heap:=h' }) :
  wpAny (model S.prog S.w) A (pyNext (.ref it)) Q E s:=by
 refine X1ppp (id u) λo U O Y=>?_;unfold pyNext
 refine ac (eX (fi (name:=ct "__next__") u.typeIs cu
  (cX cu u.typeIs eY ?_ (eV _))))
 refine ac (ai (ac (ac ?_)))
 first|refine ac (c7 u.typeIs (ai ?_))|refine ac (dM u.typeIs (ai ?_))
 refine ac (wpAny_fieldsOf U Y ?_);have y:gq "dict_keyiterator"=a7:=by decide
 rw[y];show wpAny _ _ (if (bK d == bn)=a6 then _ else _) _ _ s;rw[if_neg (show ¬((bK d == bn)=a6) from aQ)]
 refine ac (ai (ac (bL z rfl ?_)));rw[if_neg (by simp)]
 refine ac (ai (ac (e8 z rfl ?_)));rw[if_neg (by simp)]
 refine ai ?_;simp only[show ¬((i:Int)<0) from by exact lin [i] [] (.l (.c V0) K0) [] rfl,if_false,b7,B]
 refine ac ?_
 first|refine ac (c7 u.typeIs (ai ?_))|refine ac (dM u.typeIs (ai ?_))
 refine ac (wpAny_isOneOf_keyiter u.typeIs ?_);show wpAny _ _ (setField (.ref it) 1 (dP ((i:Int)+1)) >>= _) _ _ s;refine ac (fB U Y (by simp) ?_)
 have T:(s.heap.update it (c5 (·.setIfInBounds 1 (dP ((i:Int)+1))))).IsKeyIter it d (i+1) es.size ep :=
  ⟨_,bZ _ U (fS (d5 Y _)),(Obj.cls_mapFields ..).trans O,by rw[d5 Y];simp[dP]⟩
 refine ac (bh (ac (wpAny_isOneOf_keyiter (s:={ s with heap:=s.heap.update it (c5 (·.setIfInBounds 1 (dP ((i:Int)+1)))) }) T.typeIs ?_)))
 show wpAny _ _ (pure e.key) _ _ _;exact ai (ai ⟨_,rfl,ai (hQ _ T (bU ..))⟩)
theorem LL(hh:A.handled=none)(u:s.heap.IsKeyIter it d i es.size ep)
  (B:DictE s.heap d es ep) (O:es.size<=i) (Y:∀h',dr it s.heap h'->Q none { s with heap:=h' }):wpAny (model S.prog S.w) A (pyNext (.ref it)) Q E s:=by
 refine X1ppp (id u) λo U hc z=>?_;unfold pyNext
 refine ac (eX (fi (name:=ct "__next__") u.typeIs cu
  (cX cu u.typeIs eY ?_ (eV _))))
 refine ac (ai (ac (ac ?_)))
 first|refine ac (c7 u.typeIs (ai ?_))|refine ac (dM u.typeIs (ai ?_))
 refine ac (wpAny_fieldsOf U z ?_);have y:gq "dict_keyiterator"=a7:=by decide
 rw[y];show wpAny _ _ (if (bK d == bn)=a6 then _ else _) _ _ s;rw[if_neg (show ¬((bK d == bn)=a6) from aQ)]
 refine ac (ai (ac (bL B rfl ?_)));rw[if_neg (by simp)]
 refine ac (ai (ac (e8 B rfl ?_)));rw[if_neg (by simp)]
 refine ai ?_;simp only[show ¬((i:Int)<0) from by exact lin [i] [] (.l (.c V0) K0) [] rfl,if_false,b7,Array.getElem?_eq_none O]
 refine ac ?_
 first|refine ac (c7 u.typeIs (ai ?_))|refine ac (dM u.typeIs (ai ?_))
 show wpAny _ _ (setField (.ref it) 0 .none >>= _) _ _ s;refine ac (fB U z (by simp) ?_)
 show wpAny _ _ (newExc (.type "StopIteration") [] >>= _) _ _ _;refine ac ?_;simp only[newExc,newTuple];refine ac (c8 ?_ (by size_fits))
 refine ac (m:=gF _ _) (wpAny_of_eq (a:=bn) (by first|rfl|(simp only[gF];rfl)) (c8 ?_ (by size_fits)))
 simp only[raiseNew];refine ac (wpAny_handled ?_);rw[show A.in1.handled=none from hh]
 refine ac (ai (wpAny_throw ?_));refine ac (dQ (T := "StopIteration") (b:=a6) ⟨_,aE _ rfl,rfl⟩ isSubtype_stop ?_);exact ai (Y _ (((bU ..).extBut.push _).push _))
end
section
variable {F:Fx S}{m m':L4}{V V':L0}{s s':ag}{X:a8->ag->Prop}{Q:AV->L0->Prop}
theorem grown(hs:F.St m V s)(r:Rep S.cv s.heap (F.D V) av v):Rep S.cv (s.heap.push o) (F.D V) av v:=by
 exact An (hs.grow (Ax s.heap o) s.toks) λY st=>r.st st.any Y
theorem Mn.tup(hq:S.hx=aa):Mn F V (.tup l) l (λZ Z=>True):=by
 intro m va s t X hs ra;obtain⟨ad,vs,n,rfl,e,rl⟩:∃ad vs n,va=.ref ad/\s.heap.get? ad=a0 (BD (aA vs) n)/\RepL S.cv s.heap (F.D V) l vs:=by
  refine X3pppp ra.inv λa b c e f Z r=>?_;exact⟨a,b,c,e,f,r⟩
 have hL:s.heap.IsTuple ad vs.toArray:=⟨_,e,rfl,n,rfl⟩;refine wpAny_pyIter_tuple hL ⟨s.heap.objs.size,(·=s.heap.objs.size),λA0 i V' s'=>s'.heap.IsTupleIter s.heap.objs.size ad i/\Rep S.cv s'.heap (A0.D V') (.tup l) (.ref ad),rfl,?_,Ax _ _,⟨_,_,rfl⟩,λb q=>by rw[q];exact Ay _,?_⟩
 .have y:∀i (s':ag),s'.heap.IsTupleIter s.heap.objs.size ad i->Its s'.heap (·=s.heap.objs.size):=by
   refine λi s' hR1 b hR2=>X1ppp hR1 λo e c d=>?_;subst hR2;exact⟨o,e,⟨_,c,by decide,by decide⟩,_,d⟩
  refine λA0=>⟨λi V' s' U=>y i s' U.1,λi Ao Ar Aa Ac Ab Aj O hO hN U Ad st Ag o=>⟨?_,U.2.step st hO Ad.pN⟩,λi x Ao Aa Ac GO Q X hx Ad U hQ=>?_,λi Aa Ac Q X U hQ=>wpAny_pyIter_tupleiter U.1 hQ,λAo Aa Ac Q X Ad U hQ=>?_⟩
  .have z:=y i Ac U.1
   exact X1ppp U.1 λo e c d=>⟨o,z.still Ad hO hN st rfl e,c,d⟩
  .refine An U λB u=>?_
   .refine X3pppp u.inv λZ ws n' e0 e' d Y=>?_
    obtain rfl:=bE e0;refine X1pp (Y.get hx) λv hv rv=>?_;have z:=y i Ac B;refine wpAny_pyNext_tuple_item B (items:=ws.toArray) ⟨_,e',rfl,n',rfl⟩ (x:=v) (by simpa using hv) λh' T hsb=>?_
    have ist:ItStep (·=s.heap.objs.size) Ac { Ac with heap:=h' }:=⟨λb o q e=>hsb.extBut b o q e,rfl,rfl,rfl⟩
    exact X1ppp (id T) λo eo co Z=>Bh eo co (by decide) (hQ v _ ist (rv.it z ist.keep) ⟨T,u.it z ist.keep⟩)
  .refine An U λB u=>?_
   .refine X3pppp u.inv λZ ws n' e0 e' d Y=>?_
    obtain rfl:=bE e0;exact wpAny_pyNext_tuple_end (A0.room.quiet hq) B (items:=ws.toArray) ⟨_,e',rfl,n',rfl⟩ (by simp[Y.length]) λh' he=>hQ _ ⟨λb o q e=>he b o q e,rfl,rfl,rfl⟩
 .exact λA0 Ab Aj kp hD ks=>⟨⟨_,kp _ _ (aE _ rfl),rfl,rfl⟩,(grown hs ra).ext (Ext.of_keeps kp) hD⟩
noncomputable def C8(x:Str):List AV:=x.cps.toList.map λc=>.str ⟨#[c]⟩
theorem Mn.str(hq:S.hx=aa)(ha:x.cps.all (·<128)=a6):Mn F V (.str x) (C8 x) (λZ Z=>True):=by
 refine λm va s t X hs ra=>X1l va ra.inv λtk=>wpAny_pyIter_ascii ha ⟨s.heap.objs.size,(·=s.heap.objs.size),λA0 i V' s'=>s'.heap.IsStrIter s.heap.objs.size "str_ascii_iterator" x tk i,rfl,?_,Ax _ _,⟨_,_,rfl⟩,λb q=>by rw[q];exact Ay _,?_⟩
 .have u:∀i (s':ag),s'.heap.IsStrIter s.heap.objs.size "str_ascii_iterator" x tk i->Its s'.heap (·=s.heap.objs.size):=by
   refine λi s' hR1 b hR2=>X1ppp hR1 λo e c d=>?_;subst hR2;exact⟨o,e,⟨_,c,by decide,by decide⟩,_,d⟩
  refine λA0=>⟨λi V' s' U=>u i s' U,λi Ao Ar Aa Ac Ab Aj O hO hN U Ad st Ag o=>?_,λi y Ao Aa Ac GO Q X hx Ad U Y=>?_,λi Aa Ac Q X U Y=>wpAny_pyIter_striter_ascii U Y,λAo Aa Ac Q X Ad U Y=>?_⟩
  .have z:=u i Ac U
   exact X1ppp U λo e c d=>⟨o,z.still Ad hO hN st rfl e,c,d⟩
  .have z:=u i Ac U
   simp only[C8,aM,aX,Array.getElem?_toList]at hx;refine X1pp hx λc hc Z0=>?_;clear hx;subst Z0;refine wpAny_pyNext_ascii_item U (c:=c) hc λh' T hsb=>?_;have B:ItStep (·=s.heap.objs.size) Ac { Ac with heap:=h',toks:=Ac.toks+1 }:=⟨λb o q e=>hsb.extBut b o q e,rfl,rfl,rfl⟩
   exact X1ppp (id T) λo eo co Z=>Bh eo co (by decide) (Y _ _ B (.str _ _) T)
  .exact wpAny_pyNext_ascii_end (A0.room.quiet hq) U (by simp[C8]) λh' he=>Y _ ⟨λb o q e=>he b o q e,rfl,rfl,rfl⟩
 .exact λA0 Ab Aj kp hD ks=>⟨_,kp _ _ (aE _ rfl),rfl,rfl⟩
theorem RepD.get{i:Nat}{k:Ah}{x:AV}(r:RepD cv h D l es)(q:l[i]?=a0 (k,x)):∃e,es[i]?=a0 e/\Rep cv h D (sp k) e.key/\Rep cv h D x e.val:=by
 induction l generalizing es i with
 |nil=>exact(Al gX q).elim
 |cons p l y =>
  refine X6lpppp es r.inv λt B T n v z e d a b=>?_
  cases i with
  |zero=>obtain rfl:p=(k,x):=ae q;exact⟨_,rfl,.tup (vs:=[_,_]) e d (.cons (.int _ _) (.cons (.int _ _) .nil)),a⟩
  |succ i=>exact y (es:=z) (i:=i) b q
theorem RepD.length(r:RepD cv h D l es):es.length=l.length:=by
 induction l generalizing es with|nil=>rw[show es=[] from r.inv];rfl|cons p l y=>refine X6lpppp es r.inv λt B T n v z Z Z Z b=>?_;exact congrArg fF (y b)
theorem Rep.dctE(r:Rep S.cv s.heap (F.D V) a v)(hs:F.St m V s)(h:dd V a=a0 l) :
  ∃ad es n,v=.ref ad/\DictE s.heap ad (aA es) n/\(ad == cG)=a7/\RepD S.cv s.heap (F.D V) l es:=by
 exact X3lpppp v (r.dct hs.inv h) λad es n e u y U=>⟨ad,es,n,rfl,e,u,U⟩
theorem Mn.dict(hq:S.hx=aa){l:List (Ah×AV)}:Mn F V (.dict l) (l.map λp=>sp p.1) (λZ Z=>True):=by
 refine λm va s t X hs ra=>X3lppppp va ra.inv λad es n e d sm nd rd=>?_;have hE:DictE s.heap ad es.toArray n:=e;refine Iu sm hE ⟨s.heap.objs.size,(·=s.heap.objs.size),λA0 i V' s'=>s'.heap.IsKeyIter s.heap.objs.size ad i es.toArray.size n/\DictE s'.heap ad es.toArray n/\¬A0.D V' ad/\RepD S.cv s'.heap (A0.D V') l es,rfl,?_,Ax _ _,⟨_,_,rfl⟩,λb q=>by rw[q];exact Ay _,?_⟩
 .have its:∀i (s':ag),s'.heap.IsKeyIter s.heap.objs.size ad i es.toArray.size n->Its s'.heap (·=s.heap.objs.size):=by
   refine λi s' hR1 b hR2=>X1ppp hR1 λo e c d=>?_;subst hR2;exact⟨o,e,⟨_,c,by decide,by decide⟩,_,d⟩
  refine λA0=>⟨λi V' s' U=>its i s' U.1,λi Ao Ar Aa Ac Ab Aj O hO hN U Ad st Ag o=>⟨?_,?_,?_,U.2.2.2.step st hO Ad.pN⟩,λi x Ao Aa Ac GO Q X hx Ad U hQ=>?_,λi Aa Ac Q X U hQ=>wpAny_pyIter_keyiter U.1 hQ,λAo Aa Ac Q X Ad U hQ=>?_⟩
  .have z:=its i Ac U.1
   exact X1ppp U.1 λo e c d=>⟨o,z.still Ad hO hN st rfl e,c,d⟩
  .exact st.ext.obj _ _ U.2.1 (λq=>U.2.2.1 (q.imp id λq=>q.elim (hO _) (Ad.pN _)))
  .intro q
   rcases q with q|q
   .rcases st.dom _ q with z|z
    .exact U.2.2.1 (.inl z)
    .have:=U.2.1;unfold DictE at this;rw[z]at this;exact nS this
   .exact U.2.2.1 (.inr q)
  .refine B4 U λY u nD T=>?_
   simp only[aM,aX]at hx;obtain⟨⟨k,y⟩,hl,rfl⟩:=hx;refine X1ppp (T.get hl) λen he rk Z=>?_;have z:=its i Ac Y;refine It Y u (e:=en) (by simpa using he) λh' hit' hsb=>?_
   have B:ItStep (·=s.heap.objs.size) Ac { Ac with heap:=h' }:=⟨λb o q e=>hsb.extBut b o q e,rfl,rfl,rfl⟩
   refine X1ppp (id hit') λo eo co Z=>Bh eo co (by decide) (hQ _ _ B (rk.it z B.keep) ⟨hit',B.keep _ _ (z.seq u (by intro _ h;exact nDf rfl h)) u,nD,T.it z B.keep⟩)
  .exact B4 U λY u nD T=>LL (A0.room.quiet hq) Y u (by simp[T.length]) λh' he=>hQ _ ⟨λb o q e=>he b o q e,rfl,rfl,rfl⟩
 .exact λA0 Ab Aj kp hD ks=>An (hs.grow (Ax s.heap { cls:=.type "dict_keyiterator",data:=.fields #[.ref ad,.int 0 0,.int es.toArray.size 0,.int n 0] }) s.toks) λh1 st=>⟨⟨_,kp _ _ (aE _ rfl),rfl,rfl⟩,kp _ _ (aw _ hE),(λq=>(hD _ q).elim d λz=>by rw[aw _ e]at z;exact nS' z),(rd.step st.any h1.own h1.pN).ext (Ext.of_keeps kp) hD⟩
noncomputable def Bd(a b c:Int):Nat:=(aR a b c).toNat
theorem Mn.range{a b c:Int}(hsm:cC a b c=a6):Mn F V (.range a b c) (A1 a c (Bd a b c)) (λZ Z=>True):=by
 refine λm va s t X hs ra=>X4lpp va ra.inv λr tk1 tk2 tk3 e d=>?_;have sz:0<=aR a b c:=by
  unfold aR
  split
  .split
   .have:0<=(b - a - 1) / c:=Int.ediv_nonneg (by omega) (by omega)
    exact lin [] [(b - a - 1) / c] (.f K0 (.A V0 K1)) [.f K0 V0] rfl this
   .exact lin [] [] (.f K0 K0) [] rfl
  .split
   .have:0<=(a - b - 1) / -c:=Int.ediv_nonneg (by omega) (by omega)
    exact lin [] [(a - b - 1) / -c] (.f K0 (.A V0 K1)) [.f K0 V0] rfl this
   .exact lin [] [] (.f K0 K0) [] rfl
 refine wpAny_pyIter_range (t:=tk1) (u:=tk2) (v:=tk3) e hsm ⟨s.heap.objs.size,(·=s.heap.objs.size),λA0 i V' s'=>gV s'.heap s.heap.objs.size (a+c * i) (aR a b c - i) c,rfl,?_,Ax _ _,⟨_,_,rfl⟩,λb q=>by rw[q];exact Ay _,?_⟩
 .have B:∀(i:Nat)(s':ag),gV s'.heap s.heap.objs.size (a+c * i) (aR a b c - i) c->Its s'.heap (·=s.heap.objs.size):=by
   rintro i s' e b rfl
   exact⟨_,e,⟨_,rfl,by decide,by decide⟩,_,rfl⟩
  have len:(A1 a c (Bd a b c)).length=Bd a b c:=by simp[A1]
  refine λA0=>⟨λi V' s' U=>B i s' U,λi Ao Ar Aa Ac Ab Aj O hO hN U Ad st Ag o=>?_,λi y Ao Aa Ac GO Q X T Ad U hQ=>?_,λi Aa Ac Q X U hQ=>wpAny_pyIter_rangeiter U hQ,λAo Aa Ac Q X Ad U hQ=>?_⟩
  .exact(B i Ac U).still Ad hO hN st rfl U
  .have z:=B i Ac U
   simp only[A1,aM,aX]at T;refine X1pp T λj hj Z0=>?_;clear T;subst Z0;have Y:i<Bd a b c:=by
    rcases bO i (Bd a b c)with q|q
    .exact q
    .rw[aZ (by simpa using q)]at hj;exact nS hj
   have:j=i:=by rw[List.getElem?_range Y]at hj;exact(ae hj).symm
   subst this;refine wpAny_pyNext_range_item U (by unfold Bd at Y;exact lin [j,(aR a b c).toNat] [aR a b c] (.g K0 (.S V0 (.c V0))) [.c V0 V1,.h (.c V1) V0] rfl Y (an (lin [] [aR a b c] (.f K0 V0) [.f K0 V0] rfl sz))) λh' hit' hsb=>?_
   have ist:ItStep (·=s.heap.objs.size) Ac { Ac with heap:=h',toks:=Ac.toks+1 }:=⟨λb o q e=>hsb.extBut b o q e,rfl,rfl,rfl⟩
   refine Bh hit' rfl (by decide) (hQ _ _ ist (.int _ _) ?_)
   show gV h' _ _ _ _;have e1:a+c * ((j+1:Nat):Int)=a+c * j+c:=by rw[Int.natCast_add,Int.mul_add];simp[dq]
   have e2:aR a b c - ((j+1:Nat):Int)=aR a b c - j - 1:=by exact af (lin [j] [aR a b c] (.f (.S V0 (.c (.A V0 K1))) (.S (.S V0 (.c V0)) K1)) [] rfl) (lin [j] [aR a b c] (.f (.S (.S V0 (.c V0)) K1) (.S V0 (.c (.A V0 K1)))) [] rfl)
   rwa [e1,e2]
  .refine Ka A0.room.hh (λx T=>by refine X2pp (S.hxo x T) λo vs e r=>?_;exact⟨o,vs,Ad.inv.keep _ _ e,r⟩) U ?_ λh' he=>hQ _ ⟨λb o q e=>he b o q e,rfl,rfl,rfl⟩
   rw[len];unfold Bd;exact lin [(aR a b c).toNat] [aR a b c] (.f (.S V0 (.c V0)) K0) [.f V0 (.c V0)] rfl (aI (aR a b c))
 .intro A0 Ab Aj kp hD ks
  show gV _ _ _ _ _
  have:=kp _ _ <| aE s.heap (o:={ cls:=.type "range_iterator",data:=.fields #[dP a,dP (aR a b c),dP c] }) rfl
  simpa using this
theorem DY(hs:F.St m V s)(k:∀b o,s.heap.get? b=a0 o->h'.get? b=a0 o)(ha:s.heap.get? r=aa)
  (e:h'.get? r=a0 (HL a b c t u v)) (q:Q (.range a b c) V) :
  PW F m V s (PV F Q) (.ref r) { s with heap:=h',toks:=tk }:=by
 exact An (hs.grow k tk) λY st=>⟨V,st.any,Y,_,.range e (hs.inv.not_D ha),q⟩
theorem CT.range1(h:Q (.range 0 n 1) V):CT F m V (.type "range") [.int n] Q X:=by
 exact λvals s hs r=>X1lp vals r.one λv Y=>X1l v Y.inv λZ=>call_range_1 (DY (tk:=s.toks+1+1) hs (Ax _ _) (Ay _) (IsRange.new ..) h)
theorem CT.range2(h:Q (.range a b 1) V):CT F m V (.type "range") [.int a,.int b] Q X:=by
 exact λvals s hs r=>X2lpp vals r.two λv u Y O=>X1l v Y.inv λZ=>X1l u O.inv λZ=>call_range_2 (DY (tk:=s.toks+1) hs (Ax _ _) (Ay _) (IsRange.new ..) h)
theorem CT.range3(d:c≠0)(Y:c.natAbs<1073741824)(h:Q (.range a b c) V):CT F m V (.type "range") [.int a,.int b,.int c] Q X:=by
 intro vals s hs r
 .obtain⟨_,_,rfl,u,r⟩:=r.inv
  obtain⟨_,_,rfl,O,B⟩:=r.two;refine X1p u.inv λZ T=>?_;clear u r;subst T;refine X1p O.inv λZ z=>?_;clear r O;subst z;refine X1p B.inv λZ y=>?_;subst y
  ·.exact call_range_3 d (DY (tk:=s.toks) hs (Ax _ _) (Ay _) (IsRange.new ..) h) (.inl (PyProof.noPylong_small Y))
end
end
section
variable {S:Sta}
section
variable {F:Fx S}{m m':L4}{V V':L0}{s s':ag}{X:a8->ag->Prop}{Q:AV->L0->Prop}{K:Fl->L4->L0->Prop}
def Tgt(p:Pat)(t:aT):Prop:=match p with
 |.tup _=>∃es k q,t=.Tuple es k q
 |_=>True
theorem CP.tgt(h:CP tb sc t p):Tgt p t:=by
 cases p with|v=>trivial|tup=>refine X3lp t h λZ Z Z Z=>?_;exact⟨_,_,_,rfl⟩
inductive PSrc(F:Fx S)(m:L4)(V:L0)(s:ag)(t:aT)(G:List AV->(L0->L0->Prop)->L0->Prop)(it:a8)(Aj:ag):Prop
 |mk (I:bg) (items:List AV) (W:bg->Prop) (J:Fx S->Nat->L0->ag->Prop) (ok:L0->L0->Prop) (Ab:L0) (sm:ag) (hit:it=.ref I) (wk:∀A0:Fx S,Walk A0 I items t W (J A0) ok) (st:L2 F.P F.O V s Ab sm) (hm:F.St m Ab sm)
  (st':L2 noO noO Ab sm Ab Aj) (h:F.St m Ab Aj) (nw:∀a,W a->sm.heap.get? a=aa) (mv:Moves F Ab Aj J) (g:G items ok Ab):PSrc F m V s t G it Aj
def Mo(F:Fx S)(m:L4)(V:L0)(p:Pat)(e:E)(G:List AV->(L0->L0->Prop)->L0->Prop)(X:a8->ag->Prop):Prop :=
 ∀pe t,CE F.tb F.sc pe e->Tgt p t->∀s,F.St m V s ->
  wpAny (model S.prog S.w) F.A (eval pe F.env) (λx Ac=>wpAny (model S.prog S.w) F.A (pyIter x) (PSrc F m V s t G) X Ac) X s
theorem Mo.val(h:ET F m V e (λa Aa=>∃items ok,Mn F Aa a items ok/\G items ok Aa) X):Mo F m V p e G X:=by
 refine λpe t z hp s hs=>(h pe z s hs).out ?_;intro v Aa Ac Ai B u;obtain⟨a,Y,items,ok,T,O⟩:=u;refine aU (T m v Ac t X B Y) ?_ λZ Z e=>e;intro it Aj u;obtain⟨I,W,J,rfl,U,d,⟨h',tk,rfl⟩,y,hJ⟩:=u;exact An (B.grow d tk) λAg st=>⟨I,items,W,J,ok,Aa,Ac,rfl,U,Ai,B,st,Ag,y,hJ,O⟩
theorem Gn(h:Bf e=a6):∀x,foldedSetIterable e env x=pure x:=by
 intro x;cases e<;>first|rfl|exact nF h
theorem ST.for_(hX:iq (model S.prog S.w) F.A F.env X)(h:Mo F m V p e (λitems ok Aa=>Mc F p body ok K X items m Aa) X):ST F m V (.for_ p e body) K X:=by
 refine λps hc s hs=>X4lpppp ps hc.inv λZ Z Z Z O d he hb=>wpAny_For (aU (h _ _ he d.tgt s hs) ?_ λZ Z e=>e) (Gn O);refine λx Ac Ad=>aU Ad ?_ λZ Z e=>e;intro it Aj u;obtain⟨I,items,W,J,ok,Ab,sm,rfl,U,st,hm,T,Ag,B,hJ,hl⟩:=u;have Y:∀a,W a->s.heap.get? a=aa:=λa q=>st.new (B a q);replace st:=st.trans T.any;refine dH (forLoopT (U F) hX d hb Y st Ag (λa q=>?_) (λa q n=>?_) hJ.here hl) λr s' x=>?_
 .cases z:F.b.2.heap.get? a with|none=>rfl|some o=>refine X1p (hs.frm.there a o z) λo' y=>?_;rw[Y a q]at y;exact nS y
 .refine X1pp (hs.inv.Nin a n) λo y nf=>?_;rw[Y a q]at y;exact nS y
 .cases r<;>exact x
set_option tactic.hygienic true in
theorem ST.while_(hX:iq (model S.prog S.w) F.A F.env X)(I:Nat->L4->L0->Prop)
  (turn:∀n m V,I n m V->TT F m V c (λt Aa=>if t then SsT F m Aa body (λfl Ar z=>match fl with
   |.next=>∃Y,Y<n/\I Y Ar z
   |.ret v=>K (.ret v) Ar z) X else K .next m Aa) X) (n:Nat) (h:I n m V):ST F m V (.while_ c body) K X:=by
 intro ps U s hs;have O:=U.inv;clear U;refine X3lpp ps O λZ Z Z U hb=>wpAny_While (codeAny_whileLoop (λn=>PP F V s (I n)) ?_ n ⟨m,V,L2.refl _ _ _ _,hs,h⟩);intro n Ac T;obtain⟨Ao,Aa,Ai,Ad,hI⟩:=T;refine gp hX ((turn n Ao Aa hI _ U Ac Ad).out ?_)
 rintro b z Aj Ap Ag q
 cases b with
 |true =>
  simp only[if_true]at q ⊢;refine gp hX (aU (q _ hb Aj Ag) ?_ λZ Z e=>e);intro f BR T;obtain⟨fl,d,As,Bb,AY,B,q'⟩:=T;have y:=(Ai.trans Ap).trans Bb
  cases fl with
  |next =>
   cases f with
   |next=>refine X1pp q' λY hn hI'=>?_;exact⟨Y,hn,d,As,y,AY,hI'⟩
   |_=>exact B.elim
  |ret v =>
   cases f with|ret u=>exact⟨.ret v,d,As,y,AY,B,q'⟩|_=>exact B.elim
 |false =>
  simp only[bM,if_false]at q ⊢;exact gm ⟨.next,Ao,z,Ai.trans Ap,Ag,trivial,q⟩
def PTs(F:Fx S)(X:a8->ag->Prop)(K:L4->L0->Prop):List Pat->List AV->L4->L0->Prop
 |[],[],m,V=>K m V
 |p::ps,a::as,m,V=>PT F m V p a (λAo Aa=>PTs F X K ps as Ao Aa) X
 |_,_,_,_=>False
theorem Gv(h:Be e=a6):assignEach (e::r) env=(a7,assign e env)::assignEach r env:=by
 cases e<;>first|rfl|exact nF h
theorem each_len:∀{z:List Pat}{es:List aT},CPs F.tb F.sc es z->(assignEach es F.env).length=z.length/\(assignEach es F.env).findIdx? (·.1)=none:=by
 intro z
 induction z with
 |nil=>intro es d;obtain rfl:=d.inv_nil;exact⟨rfl,rfl⟩
 |cons q z y =>
  intro es d;refine X2lppp es d.inv λZ Z B u U=>An (y U) λO T=>?_;rw[Gv B];refine⟨by rw[aL,aL,O],?_⟩
  rw[List.findIdx?_cons];simp[T]
theorem PTs.run{K:L4->L0->Prop}:∀{ps:List Pat}{as:List AV}{B:List aT}{vs:List a8}{m:L4}{V:L0}{s:ag} ,PTs F X K ps as m V->CPs F.tb F.sc B ps->RepL S.cv s.heap (F.D V) as vs->F.St m V s ->
  wpAny (model S.prog S.w) F.A (assignInOrder ((assignEach B F.env).map (·.2)) vs) (λZ=>PP F V s K) X s:=by
 intro ps
 induction ps with
 |nil =>
  intro as B vs m V s h d r hs;obtain rfl:=d.inv_nil
  cases as with|nil=>rw[show vs=[] from r.inv];exact wpAny_assignInOrder_none ⟨m,V,L2.refl _ _ _ _,hs,h⟩|cons=>exact h.elim
 |cons p ps T =>
  intro as B vs m V s h d r hs;refine X2lppp B d.inv λe rr hn O z=>?_;rw[Gv hn]
  cases as with
  |nil=>exact h.elim
  |cons a as =>
   .obtain⟨v,vs,rfl,Y,r⟩:=r.inv
    refine eZ (aU (h e O v s hs Y) ?_ λZ Z e=>e);intro _ Ac u;obtain⟨Ao,Aa,U,y,q⟩:=u;refine aU (T q z (r.st U y) y) ?_ λZ Z e=>e;intro _ Aj u;obtain⟨Ar,Ab,Ap,Ag,Bu⟩:=u;exact⟨Ar,Ab,U.trans Ap,Ag,Bu⟩
theorem Lj(hs:F.St m V s)(k:dr s.heap.objs.size s.heap h'):F.St m V { s with heap:=h' }/\L2 F.P F.O V s V { s with heap:=h' }:=by
 exact An (hs.grow (h':=h') (λb o e=>k b o (bQ (ba e)) e) s.toks) λY st=>⟨Y,st.any⟩
theorem PT.tup(hq:S.hx=aa){K:L4->L0->Prop}(z:ps.length=l.length)(h:PTs F X K ps l m V):PT F m V (.tup ps) (.tup l) K X:=by
 intro pe B v s hs r;have y:=B.inv;clear B;obtain⟨_,_,_,rfl,B⟩:=y
 .obtain⟨ad,vs,n,rfl,e,d,r⟩:=r.inv
  have ht:s.heap.IsTuple ad vs.toArray:=⟨_,e,rfl,n,rfl⟩;obtain⟨O,T⟩:=each_len B;refine wpAny_assign_Tuple (F.room.quiet hq) ht (by rw[O,z,aG,r.length]) T λh' k=>?_
  obtain⟨Y,st⟩:=Lj hs k;refine aU (h.run B (r.st st Y) Y) ?_ λZ Z e=>e;intro _ Aj u;obtain⟨Ar,Ab,Ap,Ag,U⟩:=u;exact⟨Ar,Ab,st.trans Ap,Ag,U⟩
theorem FY(hc:CE tb sc pe e)(h:Gb e=a6):e6 [.Tuple ts k tp] pe env=pure none:=by
 replace hc:=hc.un;unfold Gb at h;generalize e.un=e at hc h;replace hc:=hc.1;unfold Kq at h;rw[<- hc]at h
 cases pe<;>first|rfl|exact(aQ h).elim
theorem pats_len:∀{z:List Pat}{es:List aT}{tb:List Nat}{sc:Nms},CPs tb sc es z->es.length=z.length:=by
 intro z
 induction z with
 |nil=>intro es tb sc h;rw[h.inv_nil];rfl
 |cons q z y =>
  intro es tb sc h;refine X2lppp es h.inv λZ Z Z Z d=>?_;rw[aL,aL,y d]
theorem FZ(h:4<=ts.length):e6 [.Tuple ts k tp] pe env=pure none:=by
 have e:(!(ts.length == 2 || ts.length == 3))=a6:=by
  rw[beq_eq_false_iff_ne.mpr (show ts.length≠2 by exact λz=>lin [ts.length] [] .no [.b K4 V0,.d V0 K2] rfl h z),beq_eq_false_iff_ne.mpr (show ts.length≠3 by exact λz=>lin [ts.length] [] .no [.b K4 V0,.d V0 K3] rfl h z)];rfl
 unfold e6
 cases pe with
 |Tuple vs a b =>
  dsimp only;rw[if_pos (by rw[e];rfl)]
 |_=>rfl
set_option tactic.hygienic true in
theorem ST.unpack(hn:Gb e=a6\/4<=ps.length)(y:AK e=a6)(h:ET F m V e (λa Aa=>PT F m Aa (.tup ps) a (λU O=>K .next U O) X) X):ST F m V (.assign (.tup ps) e) K X:=by
 refine λst hc s hs=>X3lpp st hc.inv λZ Z Z B d=>?_;have Y:=B;refine X3pp Y.inv λZ Z Z Z0 z=>?_;clear Y;subst Z0;refine Assign_Tuple ((h _ d s hs).out ?_) (by unfold swapsWithSole;exact B8 d y) (hn.elim (FY d) λq=>FZ (by rwa [pats_len z]))
 intro v Aa Ac Ai Ad u;obtain⟨a,T,q⟩:=u;refine aU (q _ B v Ac Ad T) ?_ λZ Z e=>e;intro _ Aj u;obtain⟨U,O,Ap,Ag,Bu⟩:=u;exact⟨.next,U,O,Ai.trans Ap,Ag,trivial,Bu⟩
noncomputable def D1:Nat->E->Bool
 |_,.v _=>a6
 |n+1,.bin _ l r=>D1 n l || D1 n r
 |n+1,.tup es=>es.any (D1 n)
 |_,_=>a7
theorem Gc:∀{n:Nat}{pe:aT}{e:E},CE tb sc pe e->D1 n e=a6->dR n pe=a7:=by
 intro n
 induction n with
 |zero =>
  intro pe e d h
  cases e<;>first|exact(aQ h).elim|skip
  exact X2lp pe d.inv λZ Z u=>A9 u.ok
 |succ n Y =>
  intro pe e d h
  cases e with
  |v =>
   exact X2lp pe d.inv λZ Z u=>A9 u.ok
  |bin op l r =>
   exact X3lpp pe d.inv λZ Z Z O U=>fT.mpr ((di.mp h).imp (Y O) (Y U))
  |tup es =>
   refine X3lp pe d.inv λB Z Z y=>?_;change es.any (D1 n)=a6 at h;show B.all (dR n)=a7;clear d
   induction es generalizing B with
   |nil=>exact(aQ h).elim
   |cons e es z =>
    have T:=y;clear y;exact X2lppp B T λZ Z hn y U=>fT.mpr ((di.mp h).imp (Y y) λh=>z _ U h)
  |_=>exact(aQ h).elim
theorem set_swap(m:L4)(a b:AV)(h:i≠j):(m.set i a).set j b=(m.set j b).set i a:=by
 funext k
 unfold L4.set
 by_cases Y:k=j
 .subst Y;simp[dO h]
 .simp[Y]
set_option tactic.hygienic true in
theorem sw2(u:env.blockKind=.function)
  (y:(dR 8 pa && dR 8 pb)=a7) :
  e6 [.Tuple [.Name x1 p1,.Name x2 p2] k tp] (.Tuple [pa,pb] kk p) env=pure none\/e6 [.Tuple [.Name x1 p1,.Name x2 p2] k tp] (.Tuple [pa,pb] kk p) env=pure (a0 [x1,x2]):=by
 have U:List.all [pa,pb] (dR 8)=a7:=by simpa[Bool.and_true]using y
 unfold e6;simp only[U,u];generalize hf:List.filterMap _ _=ns;have key:ns.length=2->ns=[x1,x2]:=by
  rw[<- hf];simp only[List.filterMap_cons,List.filterMap_nil]
  split<;>split<;>rename_i a b<;>(try (intro h;simp at h;done))
  rename_i z B
  intro _
  split at z<;>cases z
  split at b<;>cases b
  rfl
 clear hf;generalize List.any [pa,pb] _=b0;generalize List.all [pa,pb] (foldedForSure 8)=b1
 cases b0 with
 |true=>left;rfl
 |false =>
  cases b1 with
  |true =>
   left
   by_cases q:(ns.length != 2 || ns.eraseDups.length != ns.length)=a6
   .simp only[aL,dg,q];rfl
   .simp only[aL,dg,q];rfl
  |false =>
   by_cases q:(ns.length != 2 || ns.eraseDups.length != ns.length)=a6
   .left;simp only[aL,dg,q];rfl
   .right
    have:ns.length=2:=by
     simp only[d9,bne_iff_ne,ne_eq,not_or,Decidable.not_not]at q;exact q.1
    simp only[aL,dg,q];rw[key this]
    rfl
theorem unpack2(hq:S.hx=aa)(hij:i≠j)(hf1:F.sc.lookup x1≠a0 .free)(Y:IsV F.tb F.sc x1 i)(hf2:F.sc.lookup x2≠a0 .free)(u:IsV F.tb F.sc x2 j)(hs:F.St m V s)
  (ra:Rep S.cv s.heap (F.D V) (.tup [x,y]) v):wpAny (model S.prog S.w) F.A (unpackItems v 2 none) (λitems Aj =>
   wpAny (model S.prog S.w) F.A (assignInOrder [bindName F.env x2,bindName F.env x1] items.reverse) (λZ s'=>L2 F.P F.O V s V s'/\F.St ((m.set i x).set j y) V s') X Aj) X s:=by
 .refine X3lppp v ra.inv λad vs n e d r=>X2ppp r.two λz U Z0 r1 r2=>?_
  clear r;subst Z0;have ht:s.heap.IsTuple ad #[z,U]:=⟨_,e,rfl,n,rfl⟩;refine wpAny_unpackItems_tuple (items:=#[z,U]) (F.room.quiet hq) ht λh' kx=>An (Lj hs kx) λB T=>?_;show wpAny _ _ (assignInOrder [bindName F.env x2,bindName F.env x1] [U,z]) _ _ _;refine eZ (wpAny_bindName (BJ hf2 u B (r2.st T B) λAj Ap Ag=>(eZ (wpAny_bindName (BJ hf1 Y Ag ((r1.st T B).st Ap Ag) λBR Bb AY=>(wpAny_assignInOrder_none ⟨(T.trans Ap).trans Bb,?_⟩))))));rw[set_swap _ _ _ hij];exact AY
set_option tactic.hygienic true in
theorem ST.assign2(hq:S.hx=aa)(d:i≠j)(hn:(D1 8 e1 || D1 8 e2)=a6)(h:ET F m V e1 (λx Aa=>ET F m Aa e2 (λy T=>K .next ((L4.set m i x).set j y) T) X) X) :
  ST F m V (.assign (.tup [.v i,.v j]) (.tup [e1,e2])) K X:=by
 refine λst hc s hs=>X3lpp st hc.inv λZ Z Z hp he=>?_;have ev:ET F m V (.tup [e1,e2]) (λa Aa=>∃x y,a=.tup [x,y]/\K .next ((L4.set m i x).set j y) Aa) X :=
  ET.tup (EsT.cons (h.mono λx Aa q=>EsT.cons (q.mono λy T q=>EsT.nil ⟨by show 2<=big;decide,x,y,rfl,q⟩)))
 have B:=hp;refine X3pp B.inv λts k tp Z0 z=>?_;clear B;subst Z0
 ···.obtain⟨t1,_,rfl,n1,hp1,z⟩:=z.inv
     obtain⟨t2,_,rfl,n2,hp2,z⟩:=z.inv;obtain rfl:=z.inv_nil;refine X2ppp hp1.inv λx1 p1 Z1 hf1 Y=>?_;subst Z1;refine X2ppp hp2.inv λx2 p2 Z2 hf2 O=>?_;subst Z2;have hne:x1≠x2:=by
      rintro rfl
      have:=Y.ix
      rw[O.ix]at this;exact d (ae this).symm
     have he':=CE.inv he
     ··.obtain⟨pes,kk,p,rfl,U⟩:=he'
        obtain⟨pa,_,rfl,m1,ha,U⟩:=U.inv;obtain⟨pb,_,rfl,m2,hb,U⟩:=U.inv;obtain rfl:=U.inv_nil;have bk:F.env.blockKind=.function:=by unfold Env.blockKind;rw[F.fk];rfl
        have c2:(dR 8 pa && dR 8 pb)=a7:=by
         simp only[d9]at hn;simp only[fT];exact hn.imp (Gc ha) (Gc hb)
        rcases sw2 (x1:=x1) (x2:=x2) (p1:=p1) (p2:=p2) (tp:=tp) (p:=p) (k:=k) (kk:=kk) bk c2 with sw|sw
        .refine Assign_Tuple ((ev _ he s hs).out ?_) (by unfold swapsWithSole;exact B8 he rfl) sw
         intro v Aa Ac Ai Ad u;obtain⟨a,ra,x,y,rfl,q⟩:=u;have pt:PT F m Aa (.tup [.v i,.v j]) (.tup [x,y]) (λAr T=>K .next Ar T) X:=PT.tup hq rfl (by
          show PT F m Aa (.v i) x (λAo Aa=>PT F Ao Aa (.v j) y (λAr T=>K .next Ar T) X) X;exact PT.v (PT.v q))
         refine aU (pt _ hp v Ac Ad ra) ?_ λZ Z e=>e;intro _ Aj u;obtain⟨Ar,T,Ap,Ag,Bu⟩:=u;exact⟨.next,Ar,T,Ai.trans Ap,Ag,trivial,Bu⟩
        .refine Assign_Tuple_swapped (names:=[x1,x2]) ((ev _ he s hs).out ?_) (by unfold swapsWithSole;exact B8 he rfl) sw
         intro v Aa Ac Ai Ad u;obtain⟨a,ra,x,y,rfl,q⟩:=u;exact aU (unpack2 hq d hf1 Y hf2 O Ad ra) (λitems Aj Ag=>(aU Ag (λZ BR AY=>⟨.next,_,Aa,Ai.trans AY.1,AY.2,trivial,q⟩) λZ Z e=>e)) λZ Z e=>e
end
end
section
variable {S:Sta}
section
variable {F:Fx S}{m m':L4}{V V':L0}{s s':ag}{X:a8->ag->Prop}{Q:AV->L0->Prop}{K:Fl->L4->L0->Prop}
noncomputable def CQ(l:List AV):List AV:=l.mapIdx λi x=>.tup [.int i,x]
theorem Gs{i:Nat}{y:AV}(h:(CQ l)[i]?=a0 y):∃x,l[i]?=a0 x/\y=.tup [.int i,x]:=by
 simp only[CQ,ge,aX]at h;exact X1pr y h λx u=>⟨x,u,rfl⟩
theorem Dt(l:List AV):(CQ l).length=l.length:=by simp[CQ]
theorem Ip(y:IsEnum h e it i old)(hi:h.get? it=a0 oi)(O:Dk oi):Its h (λa=>a=e\/a=it):=by
 rintro a (rfl|rfl)
 .exact⟨_,y,⟨_,rfl,by decide,by decide⟩,_,rfl⟩
 .exact⟨_,hi,O⟩
theorem LJ(h:dl V a=a0 l)(ks:∀b o,V b=a0 o->Ab b=a0 o):dl Ab a=a0 l:=by
 cases a with
 |loc y z =>
  exact X1pp (AC (show (V y).bind Mg.list?=a0 l from h)) λo O h'=>(congrArg (·.bind Mg.list?) (ks _ _ O)).trans h'
 |_=>exact h
theorem Gu(hq:S.hx=aa){l:List AV}{ad e it:bg}(hp:Tgt (.tup ps) t)(hne:e≠it) :
  Walk F e (CQ l) t (λb=>b=e\/b=it) (λi V' s'=>(∃Y,IsEnum s'.heap e it i Y)/\s'.heap.IsListIter it ad i/\Rep S.cv s'.heap (F.D V') a (.ref ad)/\dl V' a=a0 l) (okL a):=by
 refine X3l t hp λes kk pp=>?_;have its:∀(i:Nat)(s':ag)(Y:a8),IsEnum s'.heap e it i Y->s'.heap.IsListIter it ad i->Its s'.heap (λb=>b=e\/b=it):=by
  exact λi s' Y U u=>X1ppp u λo eo c d=>Ip U eo ⟨⟨_,c,by decide,by decide⟩,_,d⟩
 refine⟨?_,?_,?_,?_,?_⟩
 .intro i V' s' u
  obtain⟨⟨Y,U⟩,T,_⟩:=u;exact its i s' Y U T
 .intro i Ao Ar Aa Ac Ab Aj O hO hN u B st Ag o
  obtain⟨⟨Y,U⟩,T,ra,hl⟩:=u;have z:=its i Ac Y U T;exact X1ppp T λoi ei c d=>⟨⟨Y,z.still B hO hN st (.inl rfl) U⟩,⟨oi,z.still B hO hN st (.inr rfl) ei,c,d⟩,ra.step st hO B.pN,okL_dl hl o⟩
 .intro i y Ao Aa Ac GO Q X hxx B u hQ
  obtain⟨⟨Y,U⟩,T,ra,hl⟩:=u;refine X1pp (Gs hxx) λx hx Z0=>?_;clear hxx;subst Z0;have z:=its i Ac Y U T;refine X3ppp (ra.lst B.inv hl) λad' ws n' e1 e' rl'=>?_;obtain rfl:=bE e1;refine X1pp (rl'.get hx) λv hv rv=>wpAny_pyNext_enum_item U T (items:=ws.toArray) ⟨_,e',rfl,n',rfl⟩ (x:=v) (by simpa using hv) hne λh' ho hit' hT hz hk=>wpAny_letOwnedTupleGo_enum ho λh'' he'' hsb=>?_
  have kp:∀b o,¬(b=e\/b=it)->Ac.heap.get? b=a0 o->h''.get? b=a0 o:=λb o q eb=>hsb.extBut b o (λz=>q (.inl z)) (hk b o (λz=>q (.inl z)) (λz=>q (.inr z)) eb);have hlt:Ac.heap.objs.size≠e:=eQ (ba U);have ist:ItStep (λb=>b=e\/b=it) Ac { Ac with heap:=h'',toks:=Ac.toks+1 }:=⟨kp,rfl,rfl,rfl⟩
  refine hQ _ _ ist ?_ ⟨⟨v,by simpa using he''⟩,hit'.extBut hsb.extBut (dO hne),ra.it z kp,hl⟩
  exact .tup (vs:=[_,_]) (hsb.extBut _ _ hlt hT) (B.inv.not_D (Ay _)) (.cons (.int _ _) (.cons (rv.it z kp) .nil))
 .intro i Aa Ac Q X u hQ
  obtain⟨⟨Y,U⟩,_⟩:=u;exact fK U hQ
 .intro Ao Aa Ac Q X B u hQ
  obtain⟨⟨Y,U⟩,T,ra,hl⟩:=u;refine X3ppp (ra.lst B.inv hl) λad' ws n' e1 e' rl'=>?_;obtain rfl:=bE e1;refine wpAny_pyNext_enum_end (F.room.quiet hq) U T (items:=ws.toArray) ⟨_,e',rfl,n',rfl⟩ (by simp[rl'.length,Dt]) λh' hx=>hQ _ ⟨λb o q e=>hx b o (λz=>q (.inr z)) e,rfl,rfl,rfl⟩
theorem Hn(hq:S.hx=aa){tk:Tok}{e it:bg}(hp:Tgt (.tup ps) t)(hne:e≠it) :
  Walk F e (CQ (C8 x)) t (λb=>b=e\/b=it) (λi V' s'=>(∃Y,IsEnum s'.heap e it i Y)/\s'.heap.IsStrIter it "str_ascii_iterator" x tk i) (λZ Z=>True):=by
 refine X3l t hp λes kk pp=>?_;have its:∀(i:Nat)(s':ag)(Y:a8),IsEnum s'.heap e it i Y->s'.heap.IsStrIter it "str_ascii_iterator" x tk i->Its s'.heap (λb=>b=e\/b=it):=by
  exact λi s' Y B T=>X1ppp T λo eo c d=>Ip B eo ⟨⟨_,c,by decide,by decide⟩,_,d⟩
 have D:Draws S.prog S.w F.A.in1 it [it] x.cps.size (λi v=>∃c u,x.cps[i]?=a0 c/\v=.str ⟨#[c]⟩ u) (λi h=>h.IsStrIter it "str_ascii_iterator" x tk i):=Draws.strAscii (A:=F.A.in1) (F.room.quiet hq) it x tk;refine⟨?_,?_,?_,?_,?_⟩
 .intro i V' s' T
  obtain⟨⟨Y,B⟩,U⟩:=T;exact its i s' Y B U
 .intro i Ao Ar Aa Ac Ab Aj O hO hN T Ad st Ag o
  obtain⟨⟨Y,B⟩,U⟩:=T;have z:=its i Ac Y B U;exact X1ppp U λoi ei c d=>⟨⟨Y,z.still Ad hO hN st (.inl rfl) B⟩,⟨oi,z.still Ad hO hN st (.inr rfl) ei,c,d⟩⟩
 .intro i y Ao Aa Ac GO Q X hxx Ad T hQ
  obtain⟨⟨Y,B⟩,U⟩:=T;refine X1pp (Gs hxx) λu hx Z1=>?_;clear hxx;subst Z1;have z:=its i Ac Y B U;have hlt':i<x.cps.size:=by
   rcases bO i x.cps.size with q|q
   .exact q
   .rw[aZ (by simpa[C8]using q)]at hx;exact nS hx
  refine wpAny_pyNext_enum_itemD D B U hlt' hne (by simpa using hne) λv h' tk' hP ho hit' hT hz hk=>wpAny_letOwnedTupleGo_enum ho λh'' he'' hsb=>?_
  have kp:∀b o,¬(b=e\/b=it)->Ac.heap.get? b=a0 o->h''.get? b=a0 o:=λb o q eb=>hsb.extBut b o (λz=>q (.inl z)) (hk b o (λz=>q (.inl z)) (λz=>q (.inr z)) eb);have hlt:Ac.heap.objs.size≠e:=eQ (ba B);have ist:ItStep (λb=>b=e\/b=it) Ac { Ac with heap:=h'',toks:=tk'+1 }:=⟨kp,rfl,rfl,rfl⟩
  refine X2pp hP λc tu hc Z2=>?_;clear hP ho;subst Z2;simp only[C8,aM,aX,Array.getElem?_toList]at hx;refine X1pp hx λc' hc' Z0=>?_;subst Z0;rw[hc]at hc';obtain rfl:=ae hc';refine hQ _ _ ist ?_ ⟨⟨_,by simpa using he''⟩,hit'.extBut hsb.extBut (dO hne)⟩
  exact .tup (vs:=[_,_]) (hsb.extBut _ _ hlt hT) (Ad.inv.not_D (Ay _)) (.cons (.int _ _) (.cons (.str _ _) .nil))
 .intro i Aa Ac Q X T hQ
  obtain⟨⟨Y,B⟩,_⟩:=T;exact fK B hQ
 .intro Ao Aa Ac Q X Ad T hQ
  obtain⟨⟨Y,B⟩,U⟩:=T;have hl:(CQ (C8 x)).length=x.cps.size:=by simp[Dt,C8]
  rw[hl]at U;exact wpAny_pyNext_enum_endD D B U λh' hx=>hQ _ ⟨λb o q e=>hx b o (λz=>q (.inr z)) e,rfl,rfl,rfl⟩
theorem Mo.enum1{G:List AV->(L0->L0->Prop)->L0->Prop}(hg:Glob S gi (.type "enumerate"))
  (h':EsT F m V [e] (λB Aa=>∃a,B=[a]/\S.hx=aa/\((∃l,dl Aa a=a0 l/\G (CQ l) (okL a) Aa)\/(∃x,a=.str x/\x.cps.all (·<128)=a6/\G (CQ (C8 x)) (λZ Z=>True) Aa))) X):Mo F m V (.tup ps) (.call (.g gi) [e]) G X:=by
 refine λpe t hc hp s hs=>X4lppp pe hc.inv λZ Z Z Z Z hx ha=>Call_ (Dp hx hg hs (CY ha (Mk.type _) h' hs ?_));refine λvals B Aa Ac Ai U r Y=>X1ppp Y λa Z0 hq q=>?_;clear Y;subst Z0;refine X1lp vals r.one λv ra=>?_;have O:∀k,Ac.heap.get? (Ac.heap.objs.size+k)=aa:=λk=>by
  cases q:Ac.heap.get? (Ac.heap.objs.size+k)with|none=>rfl|some o=>exact absurd (ba q) (de.mpr (dv _ _))
 rcases q with⟨l,hl,hG⟩|⟨x,rfl,z,hG⟩
 .refine X3ppp (ra.lst U.inv hl) λad vs n Z1 e1 rl=>?_
  subst Z1;refine call_enumerate_list (items:=vs.toArray) ⟨_,e1,rfl,n,rfl⟩ λh2 y u hz hk=>fK y (An (U.grow hk Ac.toks) λAg Ap=>⟨_,_,_,_,_,Aa,Ac,rfl,λT=>Gu (F:=T) (a:=a) (ad:=ad) hq hp (iu _),Ai,U,Ap,Ag,?_,?_,hG⟩)
  case refine_2 =>
   refine λT Ab Aj d hD ks=>X1pp u λoi eo r=>⟨⟨_,d _ _ y⟩,⟨oi,d _ _ eo,r⟩,(ra.st Ap.any Ag).ext (Ext.of_keeps d) hD,LJ hl ks⟩
  rintro b (rfl|rfl)
  .exact O 1
  .exact O 0
 .refine X1l v ra.inv λtk=>call_enumerate_str λh2 y u hz hk=>fK y (An (U.grow hk Ac.toks) λAg Ap=>?_)
  have hty:strIterType x = "str_ascii_iterator":=by unfold strIterType;rw[z];rfl
  rw[hty]at u;refine⟨_,_,_,_,_,Aa,Ac,rfl,λT=>Hn (F:=T) (tk:=tk) hq hp (iu _),Ai,U,Ap,Ag,?_,?_,hG⟩
  case refine_2 =>
   exact λT Ab Aj d hD ks=>X1pp u λoi eo r=>⟨⟨_,d _ _ y⟩,⟨oi,d _ _ eo,r⟩⟩
  rintro b (rfl|rfl)
  .exact O 1
  .exact O 0
end
end
section
variable {S:Sta}
noncomputable def JD(env:Env):List (Str×dh)->List (Str×bg)->List (Str×bg)
 |[],acc=>acc
 |(n,k)::r,acc=>if k == .free then JD env r ((n,(env.cells.lookup n).getD 0)::acc) else JD env r acc
set_option tactic.hygienic true in
theorem FR:∀{names:List (Str×dh)}{acc:List (Str×bg)},(y,c)∈JD env names acc->((y,bV)∈names/\c=(env.cells.lookup y).getD 0)\/(y,c)∈acc
 |[],_,h=>.inr h
 |(n,k)::r,acc,h=>by
  unfold JD at h
  split at h
  .rename_i B
   have z:k=bV:=by simpa using B
   rcases FR h with q|q
   .exact .inl ⟨.tail _ q.1,q.2⟩
   .rcases az.mp q with e|q
    .obtain⟨rfl,rfl⟩:=cT e;clear B;subst z;exact .inl ⟨.head _,rfl⟩
    .exact .inr q
  .rcases FR h with q|q
   .exact .inl ⟨.tail _ q.1,q.2⟩
   .exact .inr q
set_option tactic.hygienic true in
theorem CW:∀{names:List (Str×dh)}{acc:List (Str×bg)},(y,bV)∈names\/(acc.lookup y).isSome=a6->((JD env names acc).lookup y).isSome=a6
 |[],_,h=>h.elim (λe=>by exact nM e) id
 |(n,k)::r,acc,h=>by
  unfold JD
  split
  .refine CW ?_
   by_cases q:(y == n)=a6
   .right;rw[cY,q];rfl
   .rcases h with h|h
    .rcases az.mp h with e|h
     .obtain⟨rfl,rfl⟩:=cT e;simp at q
     .exact .inl h
    .right;rw[cY];simpa only[q]using h
  .rename_i B
   refine CW ?_
   rcases h with h|h
   .rcases az.mp h with e|h
    .obtain⟨rfl,rfl⟩:=cT e;simp at B
    .exact .inl h
   .exact .inr h
theorem Di(f:Str×dh->List (Str×bg)->Sem (ForInStep (List (Str×bg))))
  (O:∀name kind cs,f (name,kind) cs=if kind == .free then (do let a <- cellOf env name;pure (.yield ((name,a)::cs))) else pure (.yield cs)) :
  ∀(names:List (Str×dh))(acc:List (Str×bg)),(∀p∈names,p.2=.free->∃c,env.cells.lookup p.1=a0 c)->forIn names acc f=pure (JD env names acc)
 |[],acc,_=>by rw[List.forIn_nil];rfl
 |(n,k)::r,acc,h=>by
  rw[eh,O];unfold JD
  by_cases B:(k == bV)=a6
  .rw[if_pos B,if_pos B]
   refine X1p (h (n,k) (.head _) (by simpa using B)) λc Y=>?_
   have:cellOf env n=pure c:=by unfold cellOf;rw[Y]
   rw[this,Y];exact Di f O r _ λp d=>h p (.tail _ d)
  .rw[if_neg B,if_neg B]
   exact Di f O r _ λp d=>h p (.tail _ d)
theorem FQ(h:∀p∈scope.names,p.2=.free->∃c,env.cells.lookup p.1=a0 c):closureFor scope env=pure (JD env scope.names []):=by
 unfold closureFor;dsimp only;rw[Di _ (λname U T=>by cases hkc:U == bV<;>simp[hkc]) scope.names [] h]
 rfl
set_option tactic.hygienic true in
theorem CX:∀{names:List (Str×dh)}{h:Heap}{acc:List (Str×bg)},(y,c)∈c9 h.objs.size names acc->(y,c)∈acc\/((fY h names).IsCell c aa/\h.objs.size<=c/\(y,du)∈names)
 |[],_,_,h=>.inl h
 |(n,k)::r,hp,acc,h=>by
  unfold c9 at h;unfold fY
  split at h
  .rename_i B
   rw[if_pos B];have hz:(hp.push { cls:=.type "cell",data:=.cell aa }).objs.size=hp.objs.size+1:=cN ..;rw[<- hz]at h
   rcases CX h with q|q
   .rcases az.mp q with e|q
    .obtain⟨rfl,rfl⟩:=cT e
     have z:k=du:=by simpa using B
     clear B;subst z;exact .inr ⟨⟨_,e9 _ _ _ _ (aE _ rfl),rfl⟩,aB _,.head _⟩
    .exact .inl q
   .exact .inr ⟨q.1,by have:=q.2.1;rw[hz]at this;exact hU this,.tail _ q.2.2⟩
  .rename_i B
   rw[if_neg B]
   rcases CX h with q|q
   .exact .inl q
   .exact .inr ⟨q.1,q.2.1,.tail _ q.2.2⟩
theorem Ei:∀{names:List (Str×dh)}{n:Nat}{acc:List (Str×bg)},(∀p∈acc,p.2<n)->(∀p∈acc,∀q∈acc,p.2=q.2->p.1=q.1)->∀p∈c9 n names acc,∀q∈c9 n names acc,p.2=q.2->p.1=q.1
 |[],_,_,_,h2=>h2
 |(x,k)::r,n,acc,h1,h2=>by
  unfold c9
  split
  .refine Ei (λp d=>?_) λp d q hq e=>?_
   .rcases az.mp d with rfl|d
    .exact eR n
    .exact cO (h1 p d)
   .rcases az.mp d with rfl|d<;>rcases az.mp hq with rfl|hq
    .rfl
    .exact absurd e (eQ (h1 q hq))
    .exact absurd e (bQ (h1 p d))
    .exact h2 p d q hq e
  .exact Ei h1 h2
noncomputable def compEnv(scope:Scope)(env:Env)(cl:List (Str×bg))(C:bg):Env :=
 { scope:=relabel scope env,locals:=C,globals:=env.globals,cells:=c9 (C+1) scope.names cl,qual:=env.qual,func:=none,code:=env.code,frame:=env.frame,builtins:=env.builtins }
theorem Ha{E:a8->ag->Prop}{s:ag}{scope:Scope}{env:Env}{cl:List (Str×bg)}{M:Model}{Q:Env->ag->Prop}
  (h:Q { scope:=scope,locals:=s.heap.objs.size,globals:=env.globals,cells:=c9 (s.heap.objs.size+1) scope.names cl,qual:=env.qual,func:=none,code:=env.code,frame:=env.frame,builtins:=env.builtins }
   { s with heap:=fY (s.heap.push { cls:=.type "dict",data:=.dict #[] }) scope.names }) :
  wpAny M A (newFunctionEnv scope env.globals cl [] env.qual none .none (a0 env)) Q E s:=by
 simp only[newFunctionEnv,gJ,if_true];refine ac (wpAny_alloc ?_);refine ac (wpAny_layCells _ (λname U cells=>by cases hkc:U == du<;>simp[hkc]) _ _ _ _ ?_)
 rw[show ({ s with heap:=s.heap.push { cls:=.type "dict",data:=.dict #[] } }:ag).heap.objs.size=s.heap.objs.size+1 from cN ..]
 exact ac (ai (ai h))
set_option tactic.hygienic true in
theorem F7(h:(y,k)∈relab sc names):(y,k)∈names\/(k=.cell/\(y,bV)∈names/\sc.lookup y=a0 .cell):=by
 unfold relab at h;obtain⟨⟨n,k'⟩,T,e⟩:=aJ.mp h;simp only at e
 split at e
 .rename_i d
  obtain⟨rfl,rfl⟩:=cT e;simp only[bc,beq_iff_eq]at d;obtain⟨rfl,d⟩:=d;exact .inr ⟨rfl,T,d⟩
 .obtain⟨rfl,rfl⟩:=cT e;exact .inl T
theorem BE:∀{names:List (Str×dh)},names.lookup y=a0 k->(relab sc names).lookup y=a0 (if (k == .free && sc.lookup y == a0 .cell) then .cell else k)
 |[],h=>by exact nS h
 |(n,k')::r,h=>by
  unfold relab;rw[b5]
  by_cases q:(y == n)=a6
  .rw[cY,q]at h
   obtain rfl:=ae h
   have:y=n:=by simpa using q
   clear q;subst this;simp only
   split<;>rw[cY]<;>simp
  .rw[cY]at h
   simp only[q]at h;have u:=BE (sc:=sc) (names:=r) h;simp only
   split<;>rw[cY]<;>simp only[q]<;>exact u
section
variable {F:Fx S}{m:L4}{V:L0}{s:ag}{scope:Scope}{x:Str}{i:Nat}
theorem BM(F:Fx S)(scope:Scope):(relabel scope F.env).names=relab F.sc scope.names:=by
 unfold relabel relab;simp only[F.fk,beq_self_eq_true,Bool.and_true]
 rfl
structure CompOk(F:Fx S)(scope:Scope)(x:Str)(i:Nat):Prop where
 kind:scope.kind=.function
 var:scope.names.lookup x=a0 .local\/scope.names.lookup x=a0 .cell
 ok:okName x=a6
 ix:ixS F.tb x=a0 i
 names:∀q∈scope.names,DU F.tb F.sc x q=a6/\scope.names.lookup q.1=a0 q.2
theorem CompOk.free(c:CompOk F scope x i)(h:(y,bV)∈scope.names):F.sc.lookup y=a0 .cell:=by
 have:=(c.names _ h).1
 simpa[DU]using this
theorem CompOk.own(c:CompOk F scope x i)(h:(y,k)∈scope.names)(B:k=.local\/k=.cell)(z:ixS F.tb y=a0 j):j=i:=by
 have:=(c.names _ h).1
 rcases B with rfl|rfl <;>
 .simp only[DU,z,c.ix,Option.isNone_some,Bool.false_or,beq_iff_eq,gY]at this
  exact this
theorem CompOk.cl(c:CompOk F scope x i):∀p∈scope.names,p.2=.free->∃a,F.env.cells.lookup p.1=a0 a:=by
 intro u d O;obtain⟨y,k⟩:=u;subst O;exact F.fc y (c.free d)
theorem CompOk.closure(c:CompOk F scope x i):closureFor scope F.env=pure (JD F.env scope.names []):=FQ c.cl
theorem CompOk.clCell(c:CompOk F scope x i)(h:(y,a)∈JD F.env scope.names []):(y,bV)∈scope.names/\F.env.cells.lookup y=a0 a:=by
 rcases FR h with q|q
 .refine X1p (c.cl _ q.1 rfl) λd ha=>?_
  have:=q.2
  simp only at ha;rw[ha]at this;exact⟨q.1,by rwa [this]⟩
 .exact nM q
end
end
section
variable {S:Sta}
section
variable {F:Fx S}{m Ao:L4}{V Aa:L0}{s Ac:ag}{scope:Scope}{x:Str}{i:Nat}
noncomputable abbrev ccl(F:Fx S)(scope:Scope):List (Str×bg):=JD F.env scope.names []
noncomputable abbrev E6(F:Fx S)(scope:Scope)(C:bg):Env:=compEnv scope F.env (ccl F scope) C
theorem Ek(C:bg)(y:Str):(E6 F scope C).kindOf y=(relab F.sc scope.names).lookup y:=by
 show (relabel scope F.env).names.lookup y=_;rw[BM]
theorem CompOk.fc(c:CompOk F scope x i)(C:bg):∀y,(E6 F scope C).kindOf y=a0 .cell->∃a,(E6 F scope C).cells.lookup y=a0 a:=by
 intro y u;rw[Ek]at u;refine bj.mp (fG _ _ _ ?_)
 rcases F7 (mem_of_lookup u)with q|⟨_,q,_⟩
 .exact .inl ((c.names _ q).2)
 .exact .inr (CW (.inl q))
noncomputable def Bq(c:CompOk F scope x i)(D C:bg):Fx S :=
 ⟨F.A,F.tb,E6 F scope C,F.b,λa=>F.N a\/a=D\/Own (E6 F scope C) a,F.k,F.room.wide (λZ q=>.inl q),c.kind,F.fg,F.fb,c.fc C⟩
structure B7(F:Fx S)(scope:Scope)(s:ag)(C:bg):Prop where
 out:∀a,Own (E6 F scope C) a->(∃y,(y,bV)∈scope.names/\F.env.cells.lookup y=a0 a)\/s.heap.get? a=aa
theorem CompOk.own_out(c:CompOk F scope x i){h:Heap}(B:h.objs.size=C+1)(T:∀a,C<=a->s.heap.get? a=aa):B7 F scope s C:=by
 constructor
 rintro a (rfl|⟨y,u⟩)
 .exact .inr (T _ (aB _))
 .have z:=mem_of_lookup u
  have O:(y,a)∈c9 h.objs.size scope.names (ccl F scope):=by rwa [B]
  rcases CX O with q|q
  .exact .inl ⟨y,c.clCell q⟩
  .exact .inr (T a (hU (by have:=q.2.1;rw[B]at this;exact this)))
theorem comp_in(c:CompOk F scope x i)(hs:F.St m V s) :
  let D:=s.heap.objs.size
  let Ad:=(s.heap.push (AH #[] 0)).push { cls:=.type "dict",data:=.dict #[] }
  let Y:ag:={ s with heap:=fY Ad scope.names }
  (Bq c D (D+1)).St (λj=>if j=i then aa else m j) V Y/\L2 noO noO V s V Y/\Y.heap.get? D=a0 (AH #[] 0)/\B7 F scope s (D+1)/\(∀b o,s.heap.get? b=a0 o->Y.heap.get? b=a0 o)/\(∀b,(Bq c D (D+1)).D V b->F.D V b\/s.heap.get? b=aa)/\¬Own (E6 F scope (D+1)) D:=by
 intro D Ad Y;have Z0:(s.heap.push (AH #[] 0)).objs.size=D+1:=cN ..;have hz:Ad.objs.size=D+1+1:=(cN ..).trans (by rw[Z0])
 have kp:∀b o,s.heap.get? b=a0 o->Y.heap.get? b=a0 o:=λb o e=>e9 _ _ _ _ (aw _ (aw _ e));have fresh:∀a,D<=a->s.heap.get? a=aa:=λa ha=>by
  cases q:s.heap.get? a with|none=>rfl|some o=>exact absurd (ba q) (de.mpr ha)
 have cn:B7 F scope s (D+1):=c.own_out (h:=Ad) hz λa ha=>fresh a (hU ha);have gD:Y.heap.get? D=a0 (AH #[] 0):=e9 _ _ _ _ (aw _ (aE _ rfl));have gC:Ad.get? (D+1)=a0 { cls:=.type "dict",data:=.dict #[] }:=by rw[<- Z0];exact aE _ rfl
 refine An (hs.grow kp s.toks) λZ st=>?_;obtain⟨mc,cm,n,cc,ow,ap,cl,rr⟩:=hs.loc;have FO:∀{y a},F.env.cells.lookup y=a0 a->F.O a:=λh=>.inr ⟨_,h⟩;have hDN:∀b,DN (Bq c D (D+1)).N V b->DN F.N V b\/s.heap.get? b=aa:=by
  rintro b (q|q|q|q)
  .exact .inl (.inl q)
  .exact .inl (.inr q)
  .exact .inr (q▸fresh D (aB _))
  .rcases cn.out b q with⟨y,_,u⟩|q
   .exact .inl (.inr (hs.own b (FO u)))
   .exact .inr q
 have e0:Ext (DN F.N V) s.heap Y.heap:=Ext.of_keeps kp;have T:∀{y a},(E6 F scope (D+1)).cells.lookup y=a0 a->((y,bV)∈scope.names/\F.env.cells.lookup y=a0 a)\/(Y.heap.IsCell a aa/\D+2<=a/\(y,du)∈scope.names):=by
  intro y a u;have hm:(y,a)∈c9 Ad.objs.size scope.names (ccl F scope):=by rw[hz];exact mem_of_lookup u
  rcases CX hm with q|⟨q1,q2,q3⟩
  .exact .inl (c.clCell q)
  .exact .inr ⟨q1,by rw[hz]at q2;exact q2,q3⟩
 have U:∀{y k k'},(y,k)∈scope.names->(y,k')∈scope.names->k=k':=by
  intro y k k' h1 h2;have a1:=(c.names _ h1).2;have a2:=(c.names _ h2).2;simp only at a1 a2;rw[a1]at a2;exact ae a2
 refine⟨⟨⟨?_,hs.inv.gens,hs.inv.drawn,hs.inv.os,hs.inv.σg,?_,?_,?_⟩,?_,hs.frm.trans st.any,λa q=>.inl (hs.pN a q),?_,λa q=>.inr (.inr q),hs.gb⟩,st,gD,cn,kp,hDN,?_⟩
 .exact λb o e=>kp b o (hs.inv.keep b o e)
 .rintro a d (q|q|q)
  .exact hs.inv.σN a d q
  .exact hs.inv.not_dom (q▸fresh D (aB _)) d
  .rcases cn.out a q with⟨y,_,u⟩|q
   .exact hs.inv.σN a d (hs.own a (FO u))
   .exact hs.inv.not_dom q d
 .rintro a (q|q|q|⟨y,u⟩)
  .refine X1pp (hs.inv.Nin a q) λo e nf=>?_;exact⟨o,kp a o e,nf⟩
  .exact⟨_,q▸gD,λvs z=>by exact nDf rfl z⟩
  .have q':a=D+1:=q
   exact⟨_,by rw[q'];exact e9 _ _ _ _ gC,λvs z=>by exact nDf rfl z⟩
  .rcases T u with⟨_,u⟩|⟨⟨o,e,dd⟩,_⟩
   .refine X1pp (cc y a u) λo e dd=>?_;exact⟨o,kp a o e,λvs z=>by rw[dd]at z;exact nDf rfl z⟩
   .exact⟨o,e,λvs z=>by rw[dd]at z;exact nDf rfl z⟩
 .exact λa o e=>(hs.inv.rep a o e).ext e0 hDN (kp a)
 .refine⟨λZ=>aa,λy=>if (y,du)∈scope.names then aa else cm y,?_,?_,?_,?_,?_,?_⟩
  .have:Ad.Ns (D+1) (λZ=>aa):=by rw[<- Z0];exact Heap.Ns.new _ _
   exact this.keeps (e9 _ _)
  .intro y a u
   rcases T u with⟨hf,u⟩|⟨q,_,hc⟩
   .have:¬(y,du)∈scope.names:=λh=>by cases U h hf
    simp only[if_neg this];exact(cc y a u).keeps kp
   .simp only[if_pos hc];exact q
  .intro a q
   rcases cn.out a q with⟨y,_,u⟩|q
   .exact ow a (FO u)
   .exact⟨hs.inv.not_dom q,hs.inv.not_g q⟩
  .refine λy z a u hz'=>Ei (n:=D+1+1) (names:=scope.names) (acc:=ccl F scope) ?_ ?_ (y,a) (mem_of_lookup u) (z,a) (mem_of_lookup hz') rfl
   .intro hR1 hp
    obtain⟨p1,p2⟩:=hR1;refine An (c.clCell hp) λZ hl=>?_
    have:=(cc p1 p2 hl).lt
    show p2<D+1+1;exact Nat.lt_of_lt_of_le this (dv _ 2)
   .intro hR1 hp hR2 hq e
    obtain⟨p1,p2⟩:=hR1;obtain⟨q1,q2⟩:=hR2;simp only at e;subst e;exact ap _ _ _ (c.clCell hp).2 (c.clCell hq).2
  .intro y a u
   rcases T u with⟨_,u⟩|⟨_,q,_⟩
   .have:=(cc y a u).lt
    exact bQ (cO this)
   .exact eQ q
  .intro y j av hj hm
   have hji:j≠i:=λe=>by rw[if_pos e]at hm;exact nS hm
   rw[if_neg hji]at hm;show LocAt _ _ _ _ _ _ ((E6 F scope (D+1)).kindOf y) _ _
   cases hk:(E6 F scope (D+1)).kindOf y with
   |none=>trivial
   |some k =>
    have B:=hk;rw[Ek]at B
    rcases F7 (mem_of_lookup B)with q|⟨rfl,q,q2⟩
    .cases k with
     |«local»=>exact absurd (c.own q (.inl rfl) hj) hji
     |cell=>exact absurd (c.own q (.inr rfl) hj) hji
     |free =>
      have e1:=(c.names _ q).2;simp only at e1;rw[BE e1,c.free q]at B;simp at B
     |globalExplicit=>trivial
     |globalImplicit=>trivial
    .have:=rr y j av hj hm
     have kd:F.env.kindOf y=F.sc.lookup y:=rfl;rw[kd,q2]at this;refine X2ppp this λv a h0 h1 h2=>X1p (c.fc (D+1) y hk) λa' ha'=>?_;have hmem:¬(y,du)∈scope.names:=λh=>by cases U h q
     refine⟨v,a',ha',by simp only[if_neg hmem];exact h1,h2.ext e0 hDN⟩
 .intro a q
  rcases cn.out a q with⟨y,_,u⟩|q
  .exact hs.new a (FO u)
  .exact hs.frm.new q
 .rintro (q|⟨y,u⟩)
  .exact absurd (show D=D+1 from q) (bQ (eR D))
  .rcases T u with⟨_,u⟩|⟨_,q,_⟩
   .exact absurd (cc y D u).lt (Nat.lt_irrefl _)
   .exact absurd q (Nat.not_le.mpr (cO (eR D)))
theorem LO(c:CompOk F scope x i)(Y:B7 F scope s C)(y:L2 F.P (Bq c D C).O V s Aa Ac):L2 F.P F.O V s Aa Ac:=by
 have T:∀{b o},s.heap.get? b=a0 o->(Bq c D C).O b->F.O b:=λ{b o} e q=>by
  rcases Y.out b q with⟨z,_,hz⟩|q
  .exact .inr ⟨z,hz⟩
  .rw[q]at e;exact nS e
 exact⟨⟨λb o e d=>y.ext.obj b o e λq=>d (q.imp id λq=>q.imp (T e) id)⟩,λb o e n U d=>y.frm b o e n (λq=>U (T e q)) d,y.dom,y.there⟩
open Classical in
set_option tactic.hygienic true in
theorem LP(c:CompOk F scope x i)(cn:B7 F scope s C)(hs:F.St m V s)(hN:∀b,Np b->F.N b\/s.heap.get? b=aa)(hN2:∀b,F.N b->Np b)(stF:L2 F.P F.O V s Aa Ac)(inv':Inv S Np Aa Ac)(frm':L2 F.P noO F.b.1 F.b.2 Aa Ac)
  (out:∀a o,s.heap.get? a=a0 o->F.O a->¬Own (E6 F scope C) a->∃u,Ac.heap.get? a=a0 u/\u.cls=o.cls/\u.data=o.data/\u.dict=o.dict)
  (cm':Str->Option a8) (hcm:∀z a,(z,bV)∈scope.names->(E6 F scope C).cells.lookup z=a0 a->Ac.heap.IsCell a (cm' z))
  (hcv:∀z j av,(z,bV)∈scope.names->ixS F.tb z=a0 j->j≠i->m j=a0 av->∃v,cm' z=a0 v/\Rep S.cv Ac.heap (DN Np Aa) av v):Internal.St S F.tb F.env Np F.P F.b m Aa Ac:=by
 have FO:∀{y a},F.env.cells.lookup y=a0 a->F.O a:=λh=>.inr ⟨_,h⟩;obtain⟨mc,cm,n,cc,ow,ap,cl,rr⟩:=hs.loc;have Y:∀{y k k'},(y,k)∈scope.names->(y,k')∈scope.names->k=k':=by
  intro y k k' h1 h2;have a1:=(c.names _ h1).2;have a2:=(c.names _ h2).2;simp only at a1 a2;rw[a1]at a2;exact ae a2
 have U:∀{av v},Rep S.cv s.heap (DN F.N V) av v->Rep S.cv Ac.heap (DN Np Aa) av v:=λr=>r.ext (stF.ext.mono λa h=>h.imp id λh=>h.elim (hs.own a) (hs.pN a)) λb h=>h.elim (λh=>(stF.dom b h).imp .inl id) λh=>(hN b h).imp .inr id;have T:∀{z a},F.env.cells.lookup z=a0 a->Own (E6 F scope C) a->(z,bV)∈scope.names:=by
  intro z a hz ha;refine X1pp (cc z a hz) λo e Z=>?_
  rcases cn.out a ha with⟨z',B,hz'⟩|q
  .have:=ap _ _ _ hz hz'
   clear hz';subst this;exact B
  .rw[e]at q;exact nS' q
 have lk:∀{z a b},F.env.cells.lookup z=a0 a->(z,bV)∈scope.names->(E6 F scope C).cells.lookup z=a0 b->b=a:=by
  intro z a b hz B hb;have hm:(z,b)∈c9 (C+1) scope.names (ccl F scope):=mem_of_lookup hb;have gen:∀{names:List (Str×dh)}{k:Nat}{acc:List (Str×bg)},(z,b)∈c9 k names acc->(z,b)∈acc\/(z,du)∈names:=by
   intro names
   induction names with
   |nil=>intro k acc h;exact .inl h
   |cons p r ih =>
    intro k acc h;obtain⟨pn,pk⟩:=p;unfold c9 at h
    split at h
    .rename_i hk
     have hk':pk=du:=by simpa using hk
     clear hk;subst hk'
     rcases ih h with q|q
     .rcases az.mp q with e|q
      .obtain⟨rfl,rfl⟩:=cT e;exact .inr (.head _)
      .exact .inl q
     .exact .inr (.tail _ q)
    .rcases ih h with q|q
     .exact .inl q
     .exact .inr (.tail _ q)
  rcases gen hm with q|q
  .have:=(c.clCell q).2
   rw[hz]at this;exact(ae this).symm
  .cases Y q B
 refine⟨inv',⟨mc,λz=>if (z,bV)∈scope.names then cm' z else cm z,?_,?_,?_,ap,cl,?_⟩,frm',(λa q=>hN2 a (hs.pN a q)),hs.new,λa q=>hN2 a (hs.own a q),hs.gb⟩
 .refine X3ppp n λo es ep e d r=>?_
  have hn:¬Own (E6 F scope C) F.env.locals:=λq=>by
   rcases cn.out _ q with⟨z,_,hz⟩|q
   .exact cl z _ hz rfl
   .rw[e]at q;exact nS' q
  exact X1pppp (out _ _ e (.inl rfl) hn) λu e' Z d' Z=>⟨u,es,ep,e',d'.trans d,r⟩
 .intro z a hz
  by_cases B:(z,bV)∈scope.names
  .simp only[if_pos B]
   refine X1p (bj.mp (fG (x:=z) scope.names (C+1) (ccl F scope) (.inr (CW (.inl B))))) λb hb=>?_
   have:=lk hz B hb
   clear hz;subst this;exact hcm z b B hb
  .simp only[if_neg B]
   have hn:¬Own (E6 F scope C) a:=λq=>B (T hz q);exact X1pp (cc z a hz) λo e d=>X1pppp (out _ _ e (FO hz) hn) λu e' Z d' Z=>⟨u,e',d'.trans d⟩
 .exact λa ha=>⟨λd=>inv'.σN a d (hN2 a (hs.own a ha)),(ow a ha).2⟩
 .intro z j av hj hmj
  have old:=rr z j av hj hmj;have kd:F.env.kindOf z=F.sc.lookup z:=rfl
  by_cases B:(z,bV)∈scope.names
  .have q2:=c.free B
   rw[kd,q2]at old ⊢;refine X2ppp old λv a h0 Z Z=>?_;have hji:j≠i:=by
    rintro rfl
    have:z=x:=BO hj c.ix
    subst this
    rcases c.var with q|q<;>cases Y (mem_of_lookup q) B
   exact X1pp (hcv z j av B hj hji hmj) λv' h1' h2'=>⟨v',a,h0,by simp only[if_pos B];exact h1',h2'⟩
  .exact LocAt.map old (λh2=>U h2) (λZ h1=>h1) (λZ h1=>by simp only[if_neg B];exact h1)
theorem Iw(c:CompOk F scope x i)(cn:B7 F scope s C)(hs:F.St m V s)(hDs:s.heap.get? D=aa)(hCs:s.heap.get? C=aa)(hDC:D≠C)
  (y:L2 F.P (Bq c D C).O V s Aa Ac) (Y:(Bq c D C).St Ao Aa Ac) (hm:∀j,j≠i->Ao j=m j) (hb:iE C Ac.heap h') (gD:Ac.heap.get? D=a0 (AH vs.toArray n)) (rl:RepL S.cv Ac.heap ((Bq c D C).D Aa) ys vs)
  (hNp:∀b,Np b->F.N b\/b=C) (hN2:∀b,F.N b->Np b) (hex:Np C->∃o,h'.get? C=a0 o/\∀vs,o.data≠.fields vs)
  (q:Fresh Aa (.list ys) (.list ys) Q):∃V',L2 F.P F.O V s V' { Ac with heap:=h' }/\Internal.St S F.tb F.env Np F.P F.b m V' { Ac with heap:=h' }/\∃av,Rep S.cv h' (DN Np V') av (.ref D)/\Q av V':=by
 have stF:=LO c cn y;obtain⟨mc',cm',n',cc',ow',ap',cl',rr'⟩:=Y.loc;have oC:Own (E6 F scope C) C:=.inl rfl;have nC:∀{b o},s.heap.get? b=a0 o->b≠C:=λe q=>by rw[q,hCs]at e;exact nS e
 have B:∀b o,b≠C->Ac.heap.get? b=a0 o->h'.get? b=a0 o:=λb o ne e=>hb.extBut b o ne e;have e0:Ext (DN (Bq c D C).N Aa) Ac.heap h':=Ext.of_but λb o d e=>B b o (λq=>d (.inr (.inr (.inr (q▸oC))))) e;have nFN:¬F.N D:=λq=>by refine X1pp (hs.inv.Nin D q) λo e nf=>?_;rw[hDs]at e;exact nS e
 have nNp:¬Np D:=λq=>(hNp D q).elim nFN hDC;have T:∀b,Np b->(Bq c D C).N b:=λb q=>(hNp b q).elim .inl λq=>.inr (.inr (q▸oC));have Kz:¬Dom Aa D:=λd=>Y.inv.σN D d (.inr (.inl rfl));have mk:∀V':L0,(∀a o,V' a=a0 o->Aa a=a0 o\/(a=D/\o=.list ys))->Internal.St S F.tb F.env Np F.P F.b m V' { Ac with heap:=h' }/\L2 F.P F.O V s V' { Ac with heap:=h' }:=by
  intro V' ho;have hd:∀a,Dom V' a->Dom Aa a\/a=D:=λa d=>by
   cases e:V' a with|none=>exact absurd e d|some o=>exact(ho a o e).imp (λq=>by unfold Dom;rw[q];simp) λq=>q.1
  have hDN:∀b,DN Np V' b->DN (Bq c D C).N Aa b:=λb q=>q.elim (λq=>(hd b q).elim .inl λq=>.inr (.inr (.inl q))) λq=>.inr (T b q);have stF':L2 F.P F.O V s V' { Ac with heap:=h' }:=⟨⟨λb o e d=>B b o (nC e) (stF.ext.obj b o e d)⟩,λb o e d f g=>by
    exact X1pp (stF.frm b o e d f g) λu U r=>⟨u,B b u (nC e) U,r⟩,λb d=>(hd b d).elim (stF.dom b) λq=>.inr (q▸hDs),λb o e=>by
    exact X1p (stF.there b o e) λu U=>⟨u,B b u (nC e) U⟩⟩
  have inv':Inv S Np V' { Ac with heap:=h' }:=by
   refine⟨λb o e=>B b o (λq=>?_) (Y.inv.keep b o e),Y.inv.gens,Y.inv.drawn,Y.inv.os,λa d=>(hd a d).elim (Y.inv.σg a) λq=>q▸hs.inv.not_g hDs,λa d q=>(hd a d).elim (λd=>Y.inv.σN a d (T a q)) λz=>nNp (z▸q),λa q=>?_,λa o e=>?_⟩
   .clear cn hCs hDC y Y hb rl hNp hex n' cc' ap' cl' rr' nC B e0 T hDN;subst q
    have:=(ow' b oC).2
    rw[this]at e;exact nS e
   .rcases hNp a q with q' | q'
    .exact X1pp (hs.inv.Nin a q') λo e nf=>X1pp (Y.inv.Nin a (.inl q')) λu U nf'=>⟨u,B a u (nC e) U,nf'⟩
    .rw[q']at q ⊢;exact hex q
   .rcases ho a o e with q|⟨rfl,rfl⟩
    .exact(Y.inv.rep a o q).ext e0 (λb z=>.inl (hDN b z)) λob U=>B a ob (λz=>Y.inv.σN a (by unfold Dom;rw[q];simp) (.inr (.inr (z▸oC)))) U
    .exact .list (B _ _ hDC gD) (rl.ext e0 λb z=>.inl (hDN b z))
  have frm':L2 F.P noO F.b.1 F.b.2 V' { Ac with heap:=h' }:=by
   have bC:∀{b o},F.b.2.heap.get? b=a0 o->b≠C:=λ{b o} e q=>by
    exact X1p (hs.frm.there b o e) λu U=>nC U q
   have bD:F.b.2.heap.get? D=aa:=hs.frm.new hDs;have f:=Y.frm;exact⟨⟨λb o e d=>B b o (bC e) (f.ext.obj b o e d)⟩,λb o e d g x=>by
    exact X1pp (f.frm b o e d g x) λu U r=>⟨u,B b u (bC e) U,r⟩,λb d=>(hd b d).elim (f.dom b) λq=>.inr (q▸bD),λb o e=>by
    exact X1p (f.there b o e) λu U=>⟨u,B b u (bC e) U⟩⟩
  refine⟨LP c cn hs (λb q=>(hNp b q).imp id λ(q:b=C)=>by rwa [q]) hN2 stF' inv' frm' ?_ cm' ?_ ?_,stF'⟩
  .intro a o e ha hn
   obtain⟨_,_,_,_,ow,_,_,_⟩:=hs.loc;exact X1pp (y.there' e (ow a ha).1 hn) λu U r=>⟨u,B a u (nC e) U,r⟩
  .exact λz a hf hz=>X1pp (cc' z a hz) λo e d=>⟨o,B a o (cl' z a hz) e,d⟩
  .intro z j av hf hj hji hmj
   have hk:(Bq c D C).env.kindOf z=a0 .cell:=by
    show (E6 F scope C).kindOf z=_;rw[Ek,BE ((c.names _ hf).2),c.free hf];simp
   have new:=rr' z j av hj ((hm j hji).trans hmj);rw[hk]at new;exact X2ppp new λv a Z h1 h2=>⟨v,h1,h2.ext e0 λb q=>.inl (hDN b q)⟩
 rcases q with q|⟨i,q⟩
 .exact An (mk Aa λa o e=>.inl e) λh2 st2=>⟨Aa,st2,h2,_,.list (B _ _ hDC gD) (λd=>d.elim Kz nNp) (rl.ext e0 λb z=>.inl (z.imp id (T b))),q⟩
 .obtain⟨h2,st2⟩:=mk (Aa.set D (.list ys)) λa o e=>by
   by_cases z:a=D
   .clear hDs hDC y Y gD rl n' cc' ow' ap' cl' rr' e0 nFN nNp T Kz mk;subst z;rw[L0.set_self]at e;exact .inr ⟨rfl,(ae e).symm⟩
   .rw[L0.set_ne _ _ z]at e;exact .inl e
  exact⟨_,st2,h2,_,.loc D i,q D Kz⟩
theorem St.letGo(hs:Internal.St S tb env Np P b m V s)(hC:Np C)(hN:∀a,N a->Np a)(T:∀a,P a->N a)(Y:¬N C)(ho:∀a,Own env a->N a)(y:b.2.heap.get? C=aa)
  (hb:iE C s.heap h'):Internal.St S tb env N P b m V { s with heap:=h' }/\∀{av v},Rep S.cv s.heap (DN Np V) av v->Rep S.cv h' (DN N V) av v:=by
 have B:∀b o,b≠C->s.heap.get? b=a0 o->h'.get? b=a0 o:=λb o ne e=>hb.extBut b o ne e;have e0:Ext (DN Np V) s.heap h':=Ext.of_but λb o d e=>B b o (λq=>d (.inr (q▸hC))) e;have hD:∀b,DN N V b->DN Np V b\/s.heap.get? b=aa:=λb q=>.inl (q.imp id (hN b));have rep:∀{av v},Rep S.cv s.heap (DN Np V) av v->Rep S.cv h' (DN N V) av v:=λr=>r.ext e0 hD;obtain⟨mc,cm,n,cc,ow,ap,cl,rr⟩:=hs.loc;have U:∀a,Own env a->a≠C:=λa q z=>Y (z▸ho a q);refine⟨⟨⟨λa o e=>B a o (λq=>?_) (hs.inv.keep a o e),hs.inv.gens,hs.inv.drawn,hs.inv.os,hs.inv.σg,λa d q=>hs.inv.σN a d (hN a q),λa q=>?_,λa o e=>(hs.inv.rep a o e).ext e0 hD λob O=>B a ob (λz=>hs.inv.σN a (by unfold Dom;rw[e];simp) (z▸hC)) O⟩,?_,?_,T,hs.new,ho,hs.gb⟩,rep⟩
 .clear hC Y hb B U;subst q;rw[hs.gb a y]at e;exact nS e
 .refine X1pp (hs.inv.Nin a (hN a q)) λo e nf=>?_;exact⟨o,B a o (λz=>Y (z▸q)) e,nf⟩
 .refine⟨mc,cm,?_,λz a hz=>?_,ow,ap,cl,λz j av hj hm=>?_⟩
  .refine X3pp n λo es ep e d=>?_;exact⟨o,es,ep,B _ _ (U _ (.inl rfl)) e,d⟩
  .refine X1pp (cc z a hz) λo e d=>?_;exact⟨o,B _ _ (U _ (.inr ⟨z,hz⟩)) e,d⟩
  .exact LocAt.map (rr z j av hj hm) (λh2=>rep h2) (λZ h1=>h1) (λZ h1=>h1)
 .have bC:∀{a o},b.2.heap.get? a=a0 o->a≠C:=λe z=>by rw[z,y]at e;exact nS e
  have f:=hs.frm;exact⟨⟨λa o e d=>B a o (bC e) (f.ext.obj a o e d)⟩,λa o e d g x=>by
   exact X1pp (f.frm a o e d g x) λu O r=>⟨u,B a u (bC e) O,r⟩,f.dom,λa o e=>by
   exact X1p (f.there a o e) λu O=>⟨u,B a u (bC e) O⟩⟩
end
end
section
variable {S:Sta}
abbrev NoX:a8->ag->Prop:=λZ Z=>False
theorem GC(I:Nat->ag->Prop)
  (turn:∀n s,I n s->wpAny (model S.prog S.w) A (pyNext it) (λr Ac=>match r with
   |none=>R (.ok .next) Ac
   |some v=>wpAny (model S.prog S.w) A (letOwnedTupleGo target it v) (λZ T=>wpAny (model S.prog S.w) A (assign target env v) (λZ U =>
     wpAny (model S.prog S.w) A (forIn ifs a6 λc r=>if r=a6 then do let ok <- isTrue c env (eval c env);pure (gr ok) else pure (gr r)) (λok y =>
      if ok=a6 then wpAny (model S.prog S.w) A (eval elt env) (λx Y =>
       wpAny (model S.prog S.w) A (call (.builtin "list.append") [acc,x]) (λZ B=>∃m,m<n/\I m B) NoX Y) NoX y
      else ∃m,m<n/\I m y) NoX U) NoX T) NoX Ac) NoX s)
  (n:Nat) (h:I n s):codeAny (model S.prog S.w) A (.compLoop (.ListComp elt [⟨target,iter,ifs,0⟩] scope pos) 0 it acc env) R s:=by
 refine codeAny_loop rfl I (λn s O=>?_) n h;show wpAny _ A ((compTurn (.ListComp elt [⟨target,iter,ifs,0⟩] scope pos) 0 it acc env).onRaise (λx=>do noteFrame x env;theTreesLotGoes x)) _ _ s
 refine wpAny_noted (wpAny_noRaise ?_);rw[compTurn_list];refine ac (dL (ac (aU (turn n s O) (λr Ac u=>?_) λZ Z h'=>h')))
 cases r with
 |none=>exact ai u
 |some v =>
  refine ac (aU u (λZ T d=>(ac (aU d (λZ U Ag=>ac (aU Ag (λok y z=>?_) λZ Z h'=>h')) λZ Z h'=>h'))) λZ Z h'=>h')
  cases ok with
  |false=>exact ai ⟨rfl,z⟩
  |true =>
   exact ac (ac (aU z (λx Y BA=>ac (aU BA (λZ B Fy=>ai (ai ⟨rfl,Fy⟩)) λZ Z h'=>h')) λZ Z h'=>h'))
def TestT(F:Fx S)(m:L4)(V:L0)(cs:List E)(Q:Bool->L0->Prop):Prop:=match cs with
 |[]=>Q a6 V
 |[c]=>TT F m V c Q NoX
 |_=>False
theorem TestT.run(h:TestT F m V cs Q)(d:CEs F.tb F.sc pcs cs)(hs:F.St m V s) :
  W F m V s (forIn pcs a6 λc r=>if r=a6 then do let ok <- isTrue c F.env (eval c F.env);pure (gr ok) else pure (gr r)) (λb V' Z=>Q b V') NoX:=by
 match cs,h with
 |[],h=>obtain rfl:=d.inv_nil;exact wpAny_tests_nil ⟨V,L2.refl _ _ _ _,hs,h⟩
 |[c],h =>
  refine X2lppp pcs d.inv λZ Z O B y=>?_;obtain rfl:=y.inv_nil;exact wpAny_tests_one (h _ B s hs)
def FU(F:Fx S)(i:Nat)(elt:E)(cs:List E)(ok:L0->L0->Prop)(m:L4)(K:List AV->L0->Prop):List AV->List AV->L0->Prop
 |[],ys,V=>K ys V
 |x::r,ys,V=>TestT F (m.set i x) V cs (λb Aa=>if b=a6 then ET F (m.set i x) Aa elt (λy Ab=>ok V Ab/\FU F i elt cs ok m K r (ys++[y]) Ab) NoX else ok V Aa/\FU F i elt cs ok m K r ys Aa)
section
variable {F:Fx S}{m:L4}{V:L0}{s:ag}{scope:Scope}{x:Str}{i:Nat}
theorem set_over{m m':L4}{i:Nat}{x:AV}(h:∀j,j≠i->m' j=m j):m'.set i x=m.set i x:=by
 funext j
 unfold L4.set
 by_cases q:j=i
 .simp[q]
 .simp[q,h j q]
theorem RepL.snoc(r:RepL cv h D l vs)(O:Rep cv h D a v):RepL cv h D (l++[a]) (vs++[v]):=r.app (.cons O .nil)
theorem St.turnN(hs:Internal.St S tb env N P b m V s)(T:N C)(nO:¬Own env C)(U:b.2.heap.get? C=aa)
  (hb:dr C s.heap h') (y:∃o,h'.get? C=a0 o/\∀vs,o.data≠.fields vs):Internal.St S tb env N P b m V { s with heap:=h' }/\L2 P (·=C) V s V { s with heap:=h' }:=by
 have B:∀b o,b≠C->s.heap.get? b=a0 o->h'.get? b=a0 o:=λb o ne e=>hb b o ne e;have e0:Ext (DN N V) s.heap h':=Ext.of_but λb o d e=>B b o (λq=>d (.inr (q▸T))) e;have hD:∀b,DN N V b->DN N V b\/s.heap.get? b=aa:=λb q=>.inl q;have rep:∀{av v},Rep S.cv s.heap (DN N V) av v->Rep S.cv h' (DN N V) av v:=λr=>r.ext e0 hD;have there:∀a o,s.heap.get? a=a0 o->∃u,h'.get? a=a0 u:=λa o e=>by
  by_cases q:a=C
  .clear T nO U hb B;subst q;exact⟨y.choose,y.choose_spec.1⟩
  .exact⟨o,B a o q e⟩
 obtain⟨mc,cm,n,cc,ow,ap,cl,rr⟩:=hs.loc;have O:∀a,Own env a->a≠C:=λa q z=>nO (z▸q);refine⟨⟨⟨λa o e=>B a o (λq=>?_) (hs.inv.keep a o e),hs.inv.gens,hs.inv.drawn,hs.inv.os,hs.inv.σg,hs.inv.σN,λa q=>?_,λa o e=>(hs.inv.rep a o e).ext e0 hD λob Y=>B a ob (λz=>hs.inv.σN a (by unfold Dom;rw[e];simp) (z▸T)) Y⟩,?_,?_,hs.pN,hs.new,hs.own,hs.gb⟩,
  L2.of_but (λa o Z n e=>B a o n e) (λZ h=>.inl h) there⟩
 .clear T nO hb y B O;subst q;rw[hs.gb a U]at e;exact nS e
 .refine X1pp (hs.inv.Nin a q) λo e nf=>?_
  by_cases z:a=C
  .rwa [z]
  .exact⟨o,B a o z e,nf⟩
 .refine⟨mc,cm,?_,λz a hz=>?_,ow,ap,cl,λz j av hj hm=>?_⟩
  .refine X3pp n λo es ep e d=>?_;exact⟨o,es,ep,B _ _ (O _ (.inl rfl)) e,d⟩
  .refine X1pp (cc z a hz) λo e d=>?_;exact⟨o,B _ _ (O _ (.inr ⟨z,hz⟩)) e,d⟩
  .exact LocAt.map (rr z j av hj hm) (λh2=>rep h2) (λZ h1=>h1) (λZ h1=>h1)
 .have bC:∀{a o},b.2.heap.get? a=a0 o->a≠C:=λe z=>by rw[z,U]at e;exact nS e
  have f:=hs.frm;exact⟨⟨λa o e d=>B a o (bC e) (f.ext.obj a o e d)⟩,λa o e d g x=>by
   exact X1pp (f.frm a o e d g x) λu Y r=>⟨u,B a u (bC e) Y,r⟩,f.dom,λa o e=>by
   exact X1p (f.there a o e) λu Y=>⟨u,B a u (bC e) Y⟩⟩
theorem ItStep.step{W P O:bg->Prop}{AG:L0}{Ak Aj:ag}(st:ItStep W s Aj)(new:∀a,W a->Ak.heap.get? a=aa)(z:L2 P O AG Ak V s):L2 P O AG Ak V Aj :=
 z.over λc e o=>st.keep c o λz=>e.elim λo e=>Al (new c z) e
inductive CEnd(F:Fx S)(i:Nat)(m:L4)(K:List AV->L0->Prop)(D:bg)(AG:L0)(Ak s':ag):Prop
 |mk (V':L0)(Ao:L4)(ys:List AV)(vs:List a8)(n:Nat)(st:L2 F.P F.O AG Ak V' s')(h:F.St Ao V' s')(hm:∀j,j≠i->Ao j=m j)(g:s'.heap.get? D=a0 (AH (aA vs) n))(rl:RepL S.cv s'.heap (F.D V') ys vs)(k:K ys V'):CEnd F i m K D AG Ak s'
inductive CInv(F:Fx S)(i:Nat)(elt:E)(cs:List E)(ok:L0->L0->Prop)(m:L4)(K:List AV->L0->Prop)(items:List AV)(J:Nat->L0->ag->Prop)(D:bg)(AG:L0)(Ak:ag)(n:Nat)(s':ag):Prop
 |mk (k:Nat) (Ao:L4) (V':L0) (ys:List AV) (vs:List a8) (nn:Nat) (hn:n+k=items.length+1) (hk:k<=items.length) (hv:vs.length<=k) (st:L2 F.P F.O AG Ak V' s') (h:F.St Ao V' s') (hm:∀j,j≠i->Ao j=m j) (hJ:J k V' s')
  (g:s'.heap.get? D=a0 (AH (aA vs) nn)) (rl:RepL S.cv s'.heap (F.D V') ys vs) (c:FU F i elt cs ok m K (items.drop k) ys V'):CInv F i elt cs ok m K items J D AG Ak n s'
set_option tactic.hygienic true in
theorem LQ{W:bg->Prop}{J:Nat->L0->ag->Prop}{ok:L0->L0->Prop}{i:Nat}{elt:E}{cs:List E}{pelt piter:aT}{pcs:List aT}{scope:Scope}{pos:Pos}{m₀:L4}{K:List AV->L0->Prop}{AG:L0}{Ak:ag}
  (Wk:Walk F I items (.Name x px) W J ok) (hf:F.sc.lookup x≠a0 .free) (hx:IsV F.tb F.sc x i) (hlen:items.length<=big) (he:CE F.tb F.sc pelt elt) (hcs:CEs F.tb F.sc pcs cs)
  (new:∀a,W a->F.b.2.heap.get? a=aa) (hN:∀a,W a->¬F.N a) (hD:F.N D) (hDO:¬F.O D) (hDP:¬F.P D) (hDb:F.b.2.heap.get? D=aa) (hD0:Ak.heap.get? D=aa)
  (new0:∀a,W a->Ak.heap.get? a=aa) (hs:F.St m₀ V s) (st0:L2 F.P F.O AG Ak V s) (hm0:∀j,j≠i->m₀ j=m j) (gD:s.heap.get? D=a0 (AH #[] 0)) (hJ:J 0 V s) (h:FU F i elt cs ok m K items [] V) :
  codeAny (model S.prog S.w) F.A (.compLoop (.ListComp pelt [⟨.Name x px,piter,pcs,0⟩] scope pos) 0 (.ref I) (.ref D) F.env) (λr s'=>match r with
   |.ok _=>CEnd F i m K D AG Ak s'
   |.error _=>False) s:=by
 have wD:¬W D:=λq=>hN D q hD
 refine GC (CInv F i elt cs ok m K items J D AG Ak) ?_ (items.length+1)
  ⟨0,m₀,V,[],[],0,rfl,cR _,aB _,st0,hs,hm0,hJ,gD,.nil,h⟩
 intro n Ac hR1;obtain⟨k,Ao,Aa,ys,vs,nn,hn,hk,hv,Ai,Ad,Dr,D3,g₁,B,hl⟩:=hR1;have its:=Wk.its k Aa Ac D3;have dom_D:∀{V':L0}{s':ag}{m':L4},F.St m' V' s'->¬(Dom V' D\/F.O D\/F.P D):=λq d=>d.elim (λd=>q.inv.σN D d hD) λd=>d.elim hDO hDP
 by_cases Y:k<items.length
 .obtain⟨y,hy⟩:∃y,items[k]?=a0 y:=⟨_,ax Y⟩
  have hd:items.drop k=y::items.drop (k+1):=by
   rw[List.drop_eq_getElem_cons Y];rw[ax Y]at hy;obtain rfl:=ae hy;rfl
  rw[hd]at hl;refine Wk.next k y Ao Aa Ac _ _ _ hy Ad D3 λv Aj u rv Ie=>?_;have Ag:F.St Ao Aa Aj:=Ad.it its new hN u;have g₂:=u.keep D _ wD g₁;have rl₂:=B.it its u.keep;refine wpAny_assign_Name (BJ hf hx Ag rv λBR Bb AY=>?_);rw[set_over Dr]at AY;refine(TestT.run hl hcs AY).out ?_
  rintro b Dl BQ Cw BA q
  have T:=Bb.trans Cw;have g₄:=T.ext.obj D _ g₂ (dom_D Ag);have rl₄:=rl₂.st T BA;have st':=(u.step new0 Ai).trans T
  cases b with
  |false =>
   simp only[bM,if_false]at q ⊢;exact⟨n - 1,lin [n - 1,n] [] (.c V0 V1) [.d (.A V0 K1) V1] rfl (ao (lin [n,k,items.length] [] (.b K1 V0) [.D (-1) (.A V0 V1) (.A V2 K1),.c V1 V2] rfl hn Y)),k+1,_,Dl,ys,vs,nn,aq (lin [n,k,items.length,n - 1] [] (.b (.A V3 (.A V1 K1)) (.A V2 K1)) [.d (.A V0 V1) (.A V2 K1),.d (.A V3 K1) V0] rfl hn (ao (lin [n,k,items.length] [] (.b K1 V0) [.D (-1) (.A V0 V1) (.A V2 K1),.c V1 V2] rfl hn Y))) (lin [n,k,items.length,n - 1] [] (.b (.A V2 K1) (.A V3 (.A V1 K1))) [.D (-1) (.A V0 V1) (.A V2 K1),.b V0 (.A K1 V3)] rfl hn (au.mp (aB ((n) - (1))))),Y,lin [vs.length,k] [] (.b V0 (.A V1 K1)) [.b V0 V1] rfl hv,st',BA,λj hj=>by unfold L4.set;rw[if_neg hj],Wk.stays _ _ _ _ _ _ _ F.O Ag.own hN Ie Ag T BA q.1,g₄,rl₄,q.2⟩
  |true =>
   simp only[if_true]at q ⊢;refine(q _ he BQ BA).out ?_;intro v5 EC FX EE Fy hR1;obtain⟨e5,r5,hok,hrest⟩:=hR1;have g₅:=EE.ext.obj D _ g₄ (dom_D BA);have rl₅:=rl₄.st EE Fy;refine wpAny_list_append_plain (items:=vs.toArray) ⟨nn,g₅⟩ (λh' pl sb=>?_) (by rw[aG];exact Bn (lin [items.length,big,vs.length,k] [] (.b V2 V1) [.b V0 V1,.b V2 V3,.c V3 V0] rfl hlen hv Y))
   refine X1p pl λn6 g₆=>?_;obtain⟨h₆,U⟩:=Fy.turnN hD hDO hDb sb.extBut ⟨_,g₆,λvs z=>by exact nDf rfl z⟩
   have ee:vs.toArray.push v5=(vs++[v5]).toArray:=by simp
   rw[ee]at g₆;have stN:L2 F.P F.N Aa Aj EC { FX with heap:=h' }:=((T.trans EE).mono Ag.own).trans (U.mono λa q=>q▸hD)
   have rl₆:RepL S.cv h' (F.D EC) (ys++[e5]) (vs++[v5]):=(RepL.snoc rl₅ r5).step U (λa q=>q▸hD) Fy.pN;have stD:L2 F.P F.O AG Ak EC { FX with heap:=h' }:=by
    exact(st'.trans EE).over λa e o=>sb.extBut a o λq=>e.elim λo e=>by rw[q]at e;exact Al hD0 e
   exact⟨n - 1,lin [n - 1,n] [] (.c V0 V1) [.d (.A V0 K1) V1] rfl (ao (lin [n,k,items.length] [] (.b K1 V0) [.D (-1) (.A V0 V1) (.A V2 K1),.c V1 V2] rfl hn Y)),k+1,_,EC,ys++[e5],vs++[v5],n6,aq (lin [n,k,items.length,n - 1] [] (.b (.A V3 (.A V1 K1)) (.A V2 K1)) [.d (.A V0 V1) (.A V2 K1),.d (.A V3 K1) V0] rfl hn (ao (lin [n,k,items.length] [] (.b K1 V0) [.D (-1) (.A V0 V1) (.A V2 K1),.c V1 V2] rfl hn Y))) (lin [n,k,items.length,n - 1] [] (.b (.A V2 K1) (.A V3 (.A V1 K1))) [.D (-1) (.A V0 V1) (.A V2 K1),.b V0 (.A K1 V3)] rfl hn (au.mp (aB ((n) - (1))))),Y,by simp;exact lin [vs.length,k] [] (.b V0 V1) [.b V0 V1] rfl hv,stD,h₆,λj hj=>by unfold L4.set;rw[if_neg hj],Wk.stays _ _ _ _ _ _ _ F.N (λZ q=>q) hN Ie Ag stN h₆ hok,g₆,rl₆,hrest⟩
 .have hk':k=items.length:=by exact aq (lin [k,items.length] [] (.b V0 V1) [.b V0 V1] rfl hk) (lin [k,items.length] [] (.b V1 V0) [.j V0 V1] rfl Y)
  clear hn hk hv Y;subst hk';rw[List.drop_length]at hl;exact Wk.done Ao Aa Ac _ _ Ad D3 λAj u=>⟨Aa,Ao,ys,vs,nn,u.step new0 Ai,Ad.it its new hN u,Dr,u.keep D _ wD g₁,B.it its u.keep,hl⟩
theorem CompOk.isV(c:CompOk F scope x i):(Bq c D C).sc.lookup x≠a0 .free/\IsV (Bq c D C).tb (Bq c D C).sc x i:=by
 have e:(Bq c D C).sc.lookup x=scope.names.lookup x:=by
  show (relabel scope F.env).names.lookup x=_;rw[BM]
  rcases c.var with q|q<;>rw[BE q,q]<;>rfl
 rw[e];refine⟨?_,c.ok,?_,c.ix⟩
 .rcases c.var with q|q<;>rw[q]<;>simp
 .rw[e];exact c.var.imp id .inl
theorem compT{u T:aT}{pcs:List aT}{px pos pos':Pos}{src elt:E}{cs:List E}{X:a8->ag->Prop}{K:List AV->L0->Prop}{use:Option (a8->Sem Unit)}{Q:a8->ag->Prop}(c:CompOk F scope x i)
  (hsrc:CE F.tb F.sc u src) (hcs:CEs F.tb (relab F.sc scope.names) pcs cs) (helt:CE F.tb (relab F.sc scope.names) T elt) (hns:Bf u=a6)
  (h:Mo F m V (.v i) src (λitems ok Aa=>items.length<=big/\∀F':Fx S,F'.tb=F.tb->F'.k=F.k->FU F' i elt cs ok m K items [] Aa) X) (hs:F.St m V s)
  (fin:∀(D C:bg) σb sb Aa Ac Ao ys vs n,L2 F.P F.O V s σb sb->F.St m σb sb->sb.heap.get? D=aa->sb.heap.get? C=aa->D≠C->B7 F scope sb C->L2 F.P (Bq c D C).O σb sb Aa Ac->(Bq c D C).St Ao Aa Ac->(∀j,j≠i->Ao j=m j) ->
   Ac.heap.get? D=a0 (AH (aA vs) n)->RepL S.cv Ac.heap ((Bq c D C).D Aa) ys vs->K ys Aa->compPost (model S.prog S.w) F.A X use Q (.ref D) C (.ok .next) Ac) :
  wpAny (model S.prog S.w) F.A (comprehension (.ListComp T [⟨.Name x px,u,pcs,0⟩] scope pos) scope F.env pos' (newList []) a7 (eval u F.env) use) Q X s:=by
 refine wpAny_comprehension_free (use:=use) rfl (Gn hns) c.closure c.kind (λq hq hl=>by have:=(c.names q hq).2;rw[hl]at this;exact this) (aU (h u (.Name x px) hsrc trivial s hs) (λxv Ac Ad=>aU Ad ?_ λZ Z e=>e) λZ Z e=>e)
 intro it U hR1;obtain⟨I,items,W,J,ok,Ab,sm,rfl,wk,stm,hm,st,Ag,nw,mv,hlen,Y⟩:=hR1;have d:=comp_in c Ag;generalize hDD:U.heap.objs.size=D at d;dsimp only at d;refine c8 ?_ (by size_fits)
 have hC:(U.heap.push { cls:=.type "list",data:=.seq ([]:List a8).toArray }).objs.size=D+1:=by rw[<- hDD];exact cN ..
 refine Ha ?_;dsimp only;rw[hC,hDD]
 show codeAny (model S.prog S.w) F.A (.compStart (.ListComp T [⟨.Name x px,u,pcs,0⟩] scope pos) 0 (.ref I) (.ref D) (E6 F scope (D+1))) (compPost (model S.prog S.w) F.A X use Q (.ref D) (D+1))
  { U with heap:=fY ((U.heap.push (AH #[] 0)).push { cls:=.type "dict",data:=.dict #[] }) scope.names }
 obtain⟨BA,Cw,g₄,cn,kp,hDN,hDO⟩:=d;have its:=(wk F).its 0 Ab U mv.here;have fD:U.heap.get? D=aa:=by rw[<- hDD];exact Ay _
 have fC:U.heap.get? (D+1)=aa:=by
  cases q:U.heap.get? (D+1)with|none=>rfl|some o=>exact absurd (ba q) (by rw[hDD];exact de.mpr (hV _))
 have sD:=st.new fD;have sC:=st.new fC;have cn0:B7 F scope sm (D+1):=⟨λa q=>(cn.out a q).imp id st.new⟩;have Wb:∀a,W a->F.b.2.heap.get? a=aa:=λa q=>hm.frm.new (nw a q);have WN:∀a,W a->¬(Bq c D (D+1)).N a:=by
  rintro a q (z|z|z)
  .refine X1pp (hm.inv.Nin a z) λo e nf=>?_;rw[nw a q]at e;exact nS e
  .refine X1pp (its a q) λo e Z=>?_;rw[z,fD]at e;exact nS e
  .rcases cn.out a z with⟨y,_,hy⟩|z
   .exact its.notOwn Ag q (.inr ⟨y,hy⟩)
   .refine X1pp (its a q) λo e Z=>?_;rw[z]at e;exact nS e
 have Db:F.b.2.heap.get? D=aa:=hm.frm.new sD;have hJ:=mv (Bq c D (D+1)) Ab { U with heap:=fY ((U.heap.push (AH #[] 0)).push { cls:=.type "dict",data:=.dict #[] }) scope.names } kp hDN λZ Z e=>e
 have scn:(Bq c D (D+1)).sc=relab F.sc scope.names:=BM F scope;have st0:L2 F.P (Bq c D (D+1)).O Ab sm Ab { U with heap:=fY ((U.heap.push (AH #[] 0)).push { cls:=.type "dict",data:=.dict #[] }) scope.names }:=(st.trans Cw).any
 have B:codeAny (model S.prog S.w) F.A (.compLoop (.ListComp T [⟨.Name x px,u,pcs,0⟩] scope pos) 0 (.ref I) (.ref D) (E6 F scope (D+1))) (compPost (model S.prog S.w) F.A X use Q (.ref D) (D+1))
   { U with heap:=fY ((U.heap.push (AH #[] 0)).push { cls:=.type "dict",data:=.dict #[] }) scope.names }:=by
  refine dH (LQ (F:=Bq c D (D+1)) (m:=m) (AG:=Ab) (Ak:=sm) (wk _) c.isV.1 c.isV.2 hlen (by rwa [scn]) (by rw[scn];exact hcs) Wb WN (.inr (.inl rfl)) hDO (λq=>by refine X1pp (hm.inv.Nin D (hm.pN D q)) λo e Z=>?_;rw[sD]at e;exact nS e) Db sD nw BA st0 (λj hj=>if_neg hj) g₄ hJ (Y _ rfl rfl)) λr s' hr=>?_
  cases r with
  |error e=>exact hr.elim
  |ok f =>
   obtain⟨V',Ao,ys,vs,n,st',h',Dr,gD',rl',hK⟩:=hr
   have:=fin D (D+1) Ab sm V' s' Ao ys vs n stm hm sD sC (bQ (eR D)) cn0 st' h' Dr gD' rl' hK
   cases use<;>exact this
 exact codeAny_compStart_list B ((wk (Bq c D (D+1))).self 0 Ab _ _ _ hJ B)
theorem ET.comp{B Y:E}{cs:List E}{X:a8->ag->Prop}{Q:AV->L0->Prop}
  (h:Mo F m V (.v i) B (λitems ok Aa=>items.length<=big/\∀F':Fx S,F'.tb=F.tb->F'.k=F.k->FU F' i Y cs ok m (λO Ab=>Fresh Ab (.list O) (.list O) Q) items [] Aa) X):ET F m V (.comp Y i B cs) Q X:=by
 refine λpe hc s hs=>X6p hc.inv λZ Z Z Z Z Z Z0=>X1lpppppp pe Z0 λZ U z hns hok T Z1=>B4 Z1 λd hix hcs u=>?_;have c:CompOk F _ _ i:=⟨U,z,hok,hix,T⟩;show wpAny _ _ (eval _ _) _ _ _;rw[eval_ListComp];refine compT (K:=λO Ab=>Fresh Ab (.list O) (.list O) Q) c d hcs u hns h hs ?_;intro D C σb sb Aa Ac Ao O vs n y hb hD hC hDC cn st Ad Dr gD rl hK;obtain⟨mc,_,ns,_⟩:=Ad.loc;refine⟨mc,ns,λh' sb'=>?_⟩;obtain⟨V',st',h2,av,ra,q⟩:=Iw c cn hb hD hC hDC st Ad Dr sb' gD rl (Np:=F.N) (λb q=>.inl q) (λb q=>q) (λq=>by refine X1pp (hb.inv.Nin C q) λo e nf=>?_;rw[hC]at e;exact nS e) hK
 exact⟨V',y.trans st',h2,av,ra,q⟩
theorem ST.assignComp{j:Nat}{src elt:E}{cs:List E}{X:a8->ag->Prop}{K:Fl->L4->L0->Prop}
  (h:Mo F m V (.v i) src (λitems ok Aa=>items.length<=big/\∀F':Fx S,F'.tb=F.tb->F'.k=F.k->FU F' i elt cs ok m (λys Ab=>Fresh Ab (.list ys) (.list ys) (λa As=>K .next (m.set j a) As)) items [] Aa) X):ST F m V (.assign (.v j) (.comp elt i src cs)) K X:=by
 refine λps hc s hs=>X3lpp ps hc.inv λZ Z Z hp he=>X2ppp hp.inv λy py Z0 hf hx=>?_;subst Z0;have ev:=ET.comp (F:=F) (X:=X) h;refine X6p he.inv λpelt x xp u pcs scope Z2=>X1ppppppp Z2 λp Z1 U hvar hns hok T Z3=>B4 Z3 λhsrc hix hcs helt=>?_;subst Z1
 ···
    have c:CompOk F scope x i:=⟨U,hvar,hok,hix,T⟩;show wpAny _ _ (exec (.Assign [.Name y py] _ _) _) _ _ _
    cases hsw:(F.env.blockKind == .function && F.env.kindOf y == a0 .local && py.line == p.line && !(scope.names.any λ(n,k)=>n == y && (k == .local || k == .cell)))with
    |false =>
     refine wpAny_Assign_Name ((ev _ he s hs).out ?_) (by unfold swapsWith;exact congrArg pure hsw)
     intro v Aa Ac Ai Ad Y;obtain⟨a,ra,q⟩:=Y;exact BJ hf hx Ad ra λAj Ap Ag=>⟨.next,_,Aa,Ai.trans Ap,Ag,trivial,q⟩
    |true =>
     rw[exec_Assign_Name_used _ _ _ _ (by unfold swapsWith;exact congrArg pure hsw)]
     refine ac (dL (ac ?_));show wpAny _ _ (do let _ <- comprehension (.ListComp pelt [⟨.Name x xp,u,pcs,0⟩] scope p) scope F.env _ (newList []) a7 (eval u F.env) (a0 (PySem.assign (.Name y py) F.env))) _ _ s
     refine ac (aU (compT (use:=a0 (PySem.assign (.Name y py) F.env)) (Q:=λZ s'=>∃V',L2 F.P F.O V s V' s'/\∃a,F.St (m.set j a) V' s'/\K .next (m.set j a) V') (K:=λys Ab=>Fresh Ab (.list ys) (.list ys) (λa As=>K .next (m.set j a) As)) c hsrc hcs helt hns h hs ?_) ?_ λZ Z e=>e)
     .intro D C σb sb Aa Ac Ao ys vs n stb hb hD hC hDC cn st Ad Dr gD rl hK
      let Np:bg->Prop:=λa=>F.N a\/a=C
      have nFC:¬F.N C:=λq=>by refine X1pp (hb.inv.Nin C q) λo e nf=>?_;rw[hC]at e;exact nS e
      obtain⟨mc,_,ns,_⟩:=Ad.loc;have nsC:Ac.heap.Ns C mc:=ns;obtain⟨V',B,h2,av,ra,q⟩:=Iw c cn hb hD hC hDC st Ad Dr (h':=Ac.heap) (Heap.SameBut.refl ..) gD rl (Np:=Np) (λb q=>q) (λb q=>.inl q) (λZ=>by refine X3ppp nsC λo Z Z e dd Z=>?_;exact⟨o,e,λvs z=>by rw[dd]at z;exact nDf rfl z⟩) hK
      let Fp:Fx S:=⟨F.A,F.tb,F.env,F.b,Np,F.k,F.room.wide (λZ q=>.inl q),F.fk,F.fg,F.fb,F.fc⟩
      have h2':Fp.St m V' Ac:=h2;show wpAny (model S.prog S.w) F.A (PySem.assign (.Name y py) F.env (.ref D)) _ _ Ac;refine wpAny_assign_Name (BJ (F:=Fp) hf hx h2' ra λAj Ap Ag=>?_);have nOC:¬F.O C:=λq=>nFC (hb.own C q);have nDC:¬Dom V' C:=λd=>h2'.inv.σN C d (.inr rfl);refine⟨mc,(by refine X3ppp nsC λo es ep e dd r=>?_;refine X1pppp (Ap.there' e nDC nOC) λo' e' Z d' Z=>?_;exact⟨o',es,ep,e',d'.trans dd,r⟩),λh' sb'=>?_⟩
      exact An (St.letGo (N:=F.N) Ag (.inr rfl) (λa q=>.inl q) hs.pN nFC hs.own (hb.frm.new hC) sb') λh3 Z=>⟨V',((stb.trans B).trans Ap).over (λa e o=>sb'.extBut a o λq=>e.elim λo e=>by rw[q]at e;exact Al (stb.new hC) e),av,h3,q⟩
     .exact λZ s' Y=>X1pp Y λV' B Z4=>X1pp Z4 λa h' hk=>ai (ai ⟨.next,_,V',B,h',trivial,hk⟩)
end
end
section
variable {S:Sta}
inductive Ty where
 |none
 |bool
 |int
 |str
 |tup
 |list
 |dict
noncomputable def Ty.name:Ty->String
 |.none => "NoneType"
 |.bool => "bool"
 |.int => "int"
 |.str => "str"
 |.tup => "tuple"
 |.list => "list"
 |.dict => "dict"
noncomputable def tyA(V:L0):AV->Option Ty
 |.none=>a0 .none
 |.bool _=>a0 .bool
 |.int _=>a0 .int
 |.str _=>a0 .str
 |.tup _=>a0 .tup
 |.list _=>a0 .list
 |.dict _=>a0 .dict
 |.loc a _=>match V a with
  |some (.list _)=>a0 .list
  |some (.dict _)=>a0 .dict
  |_=>aa
 |_=>aa
noncomputable def Ty.n:Ty->Nat
 |.none=>0
 |.bool=>1
 |.int=>2
 |.str=>3
 |.tup=>4
 |.list=>5
 |.dict=>6
noncomputable def isT(t u:Ty):Bool:=cr t.n u.n || (cr t.n 1 && cr u.n 2)
section
variable {F:Fx S}{m:L4}{V:L0}{s:ag}{X:a8->ag->Prop}{Q:AV->L0->Prop}
theorem rep_ty(r:Rep S.cv s.heap (F.D V) a v)(hs:F.St m V s)(h:tyA V a=a0 t):match t with
  |.none=>v=.none
  |.bool=>∃b,v=.bool b
  |.int=>∃n u,v=.int n u
  |.str=>∃x u,v=.str x u
  |.tup=>∃ad o,v=.ref ad/\s.heap.get? ad=a0 o/\o.cls=.type "tuple"
  |.list=>∃ad o,v=.ref ad/\s.heap.get? ad=a0 o/\o.cls=.type "list"
  |.dict=>∃ad o,v=.ref ad/\s.heap.get? ad=a0 o/\o.cls=.type "dict":=by
 cases a with
 |none=>obtain rfl:=ae h;exact r.inv
 |bool b=>obtain rfl:=ae h;exact⟨_,r.inv⟩
 |int n=>obtain rfl:=ae h;exact⟨n,r.inv⟩
 |str x=>obtain rfl:=ae h;exact⟨x,r.inv⟩
 |tup l=>obtain rfl:=ae h;obtain⟨a,b,c,e,f,_⟩:=r.inv;exact⟨a,_,e,f,rfl⟩
 |list l=>obtain rfl:=ae h;obtain⟨a,b,c,e,f,_⟩:=r.inv;exact⟨a,_,e,f,rfl⟩
 |dict l=>obtain rfl:=ae h;obtain⟨a,b,c,e,f,_⟩:=r.inv;exact⟨a,_,e,f,rfl⟩
 |loc ad z =>
  unfold tyA at h;dsimp only at h
  cases e:V ad with
  |none=>rw[e]at h;exact nS h
  |some o =>
   rw[e]at h
   cases o with
   |list l'=>obtain rfl:=ae h;obtain⟨vs,n,g,q⟩:=(hs.inv.rep ad _ e).inv;exact⟨ad,_,r.inv,g,rfl⟩
   |dict l'=>obtain rfl:=ae h;obtain⟨vs,n,g,q⟩:=(hs.inv.rep ad _ e).inv;exact⟨ad,_,r.inv,g,rfl⟩
   |_=>exact(Al rfl h).elim
 |_=>exact(Al rfl h).elim
theorem CT.isinst(ha:tyA V a=a0 t)(z:S.cv j=.type u.name)(T:u≠.none)(h:Q (.bool (isT t u)) V):CT F m V (.builtin "isinstance") [a,.cls j] Q X:=by
 intro vals s hs r;obtain⟨v,c,rfl,Y,B⟩:=r.two;have d:c=.type u.name:=B.inv.trans z;clear r B;subst d;have q:=rep_ty Y hs ha
 cases t with
 |none =>
  subst q
  cases u with|none=>exact absurd rfl T|bool=>exact PySem.IsiPair.NoneType_bool (Bm _ hs (.bool _) h)|int=>exact PySem.IsiPair.NoneType_int (Bm _ hs (.bool _) h)|str=>exact PySem.IsiPair.NoneType_str (Bm _ hs (.bool _) h)|tup=>exact PySem.IsiPair.NoneType_tuple (Bm _ hs (.bool _) h)|list=>exact PySem.IsiPair.NoneType_list (Bm _ hs (.bool _) h)|dict=>exact PySem.IsiPair.NoneType_dict (Bm _ hs (.bool _) h)
 |bool =>
  obtain⟨b,rfl⟩:=q
  cases u with|none=>exact absurd rfl T|bool=>exact PySem.IsiPair.bool_bool (now hs (.bool _) h)|int=>exact PySem.IsiPair.bool_int (now hs (.bool _) h)|str=>exact PySem.IsiPair.bool_str (Bm _ hs (.bool _) h)|tup=>exact PySem.IsiPair.bool_tuple (Bm _ hs (.bool _) h)|list=>exact PySem.IsiPair.bool_list (Bm _ hs (.bool _) h)|dict=>exact PySem.IsiPair.bool_dict (Bm _ hs (.bool _) h)
 |int =>
  obtain⟨n,k,rfl⟩:=q
  cases u with|none=>exact absurd rfl T|bool=>exact PySem.IsiPair.int_bool (Bm _ hs (.bool _) h)|int=>exact PySem.IsiPair.int_int (now hs (.bool _) h)|str=>exact PySem.IsiPair.int_str (Bm _ hs (.bool _) h)|tup=>exact PySem.IsiPair.int_tuple (Bm _ hs (.bool _) h)|list=>exact PySem.IsiPair.int_list (Bm _ hs (.bool _) h)|dict=>exact PySem.IsiPair.int_dict (Bm _ hs (.bool _) h)
 |str =>
  obtain⟨x,k,rfl⟩:=q
  cases u with|none=>exact absurd rfl T|bool=>exact PySem.IsiPair.str_bool (Bm _ hs (.bool _) h)|int=>exact PySem.IsiPair.str_int (Bm _ hs (.bool _) h)|str=>exact PySem.IsiPair.str_str (now hs (.bool _) h)|tup=>exact PySem.IsiPair.str_tuple (Bm _ hs (.bool _) h)|list=>exact PySem.IsiPair.str_list (Bm _ hs (.bool _) h)|dict=>exact PySem.IsiPair.str_dict (Bm _ hs (.bool _) h)
 |tup =>
  obtain⟨ad,o,rfl,e,d⟩:=q
  cases u with|none=>exact absurd rfl T|bool=>exact PySem.IsiPair.tuple_bool e d (Bm _ hs (.bool _) h)|int=>exact PySem.IsiPair.tuple_int e d (Bm _ hs (.bool _) h)|str=>exact PySem.IsiPair.tuple_str e d (Bm _ hs (.bool _) h)|tup=>exact PySem.IsiPair.tuple_tuple e d (now hs (.bool _) h)|list=>exact PySem.IsiPair.tuple_list e d (Bm _ hs (.bool _) h)|dict=>exact PySem.IsiPair.tuple_dict e d (Bm _ hs (.bool _) h)
 |list =>
  obtain⟨ad,o,rfl,e,d⟩:=q
  cases u with|none=>exact absurd rfl T|bool=>exact PySem.IsiPair.list_bool e d (Bm _ hs (.bool _) h)|int=>exact PySem.IsiPair.list_int e d (Bm _ hs (.bool _) h)|str=>exact PySem.IsiPair.list_str e d (Bm _ hs (.bool _) h)|tup=>exact PySem.IsiPair.list_tuple e d (Bm _ hs (.bool _) h)|list=>exact PySem.IsiPair.list_list e d (now hs (.bool _) h)|dict=>exact PySem.IsiPair.list_dict e d (Bm _ hs (.bool _) h)
 |dict =>
  obtain⟨ad,o,rfl,e,d⟩:=q
  cases u with|none=>exact absurd rfl T|bool=>exact PySem.IsiPair.dict_bool e d (Bm _ hs (.bool _) h)|int=>exact PySem.IsiPair.dict_int e d (Bm _ hs (.bool _) h)|str=>exact PySem.IsiPair.dict_str e d (Bm _ hs (.bool _) h)|tup=>exact PySem.IsiPair.dict_tuple e d (Bm _ hs (.bool _) h)|list=>exact PySem.IsiPair.dict_list e d (Bm _ hs (.bool _) h)|dict=>exact PySem.IsiPair.dict_dict e d (now hs (.bool _) h)
theorem ET.cls(d:Glob S j (S.cv j))(h:Q (.cls j) V):ET F m V (.g j) Q X:=by
 exact λpe y s hs=>X2lp pe y.inv λZ Z u=>Dp u d hs (now hs (.cls j) h)
theorem CT.lenTup(hz:l.length<=big)(h:Q (.int l.length) V):CT F m V (.builtin "len") [.tup l] Q X:=by
 refine λvals s hs r=>X1lp vals r.one λv Y=>?_
 .refine X3lppp v Y.inv λad vs n e d U=>?_
  have ht:IsTup s.heap ad vs.toArray:=⟨_,e,rfl,n,rfl⟩;refine len_tuple ht (by rw[aG,U.length];exact gE.mp (GM hz)) ?_
  rw[aG,U.length];exact Bm _ hs (.int _ _) h
theorem CT.lenDict(ha:dd V a=a0 l)(hz:l.length<=big)(h:Q (.int l.length) V):CT F m V (.builtin "len") [a] Q X:=by
 refine λvals s hs r=>X1lp vals r.one λv Y=>X3lppp v (Y.dctE hs ha) λad es n e u U=>?_;have y:s.heap.get? ad=a0 (AU es.toArray n):=e;refine call_len_slot (n:=l.length) e.typeIs PySem.F.slot_dict_len (λz hq=>(cX PySem.F.slot_dict_len (s:=s) ⟨_,y,rfl⟩ PySem.F.entry_dict_len ?_ (PySem.F.args_dict_len_1 _))) (lin [l.length] [] (.l (.c V0) K0) [] rfl) (GM hz) (Bm _ hs (.int _ _) h);show wpAny _ _ (dictSize ad >>= _) _ _ s;unfold dictSize;refine ac (ac (bL y rfl (ai ?_)));show wpAny _ _ (Builtin.Dict.pendingCount ad >>= _) _ _ s;refine ac (wpAny_pendingCount_other u (ac (wpAny_mkInt (ai ⟨_,rfl,?_⟩))));have B:es.toArray.size=l.length:=by rw[aG,U.length]
 rw[B,Nat.add_zero];exact hq
theorem CT.max2(hq:S.hx=aa)(h:Q (.int (if b > a then b else a)) V):CT F m V (.builtin "max") [.int a,.int b] Q X:=by
 refine λvals s hs r=>X2lpp vals r.two λv u y O=>X1l v y.inv λZ=>?_;obtain⟨_,rfl⟩:=O.inv;refine max_two_ints (F.room.quiet hq) λh' tk k=>An (hs.grow k tk) λY st=>?_
 by_cases c:b > a
 .rw[if_pos c]at h ⊢;exact⟨V,st.any,Y,_,.int _ _,h⟩
 .rw[if_neg c]at h ⊢;exact⟨V,st.any,Y,_,.int _ _,h⟩
theorem CT.min2(hq:S.hx=aa)(h:Q (.int (if b<a then b else a)) V):CT F m V (.builtin "min") [.int a,.int b] Q X:=by
 refine λvals s hs r=>X2lpp vals r.two λv u y O=>X1l v y.inv λZ=>?_;obtain⟨_,rfl⟩:=O.inv;refine min_two_ints (F.room.quiet hq) λh' tk k=>An (hs.grow k tk) λY st=>?_
 by_cases c:b<a
 .rw[if_pos c]at h ⊢;exact⟨V,st.any,Y,_,.int _ _,h⟩
 .rw[if_neg c]at h ⊢;exact⟨V,st.any,Y,_,.int _ _,h⟩
theorem CT.listList(ha:dl V a=a0 l)(hz:l.length<=big)(h:Fresh V (.list l) (.list l) Q):CT F m V (.type "list") [a] Q X:=by
 refine λvals s hs r=>X1lp vals r.one λv Y=>?_;obtain⟨ad,vs,n,rfl,e,U⟩:=Y.lst hs.inv ha;refine call_list_seq ad (T := "list") (.inl rfl) e rfl rfl (λh' B k y=>BG (tk:=s.toks) hs k (Ay _) y U h) (by rw[aG,U.length];exact Bn hz)
theorem CT.listTup(hz:l.length<=big)(h:Fresh V (.list l) (.list l) Q):CT F m V (.type "list") [.tup l] Q X:=by
 refine λvals s hs r=>X1lp vals r.one λv Y=>?_
 .exact X3lppp v Y.inv λad vs n e d U=>call_list_seq ad (T := "tuple") (.inr rfl) e rfl rfl (λh' B k y=>BG (tk:=s.toks) hs k (Ay _) y U h) (by rw[aG,U.length];exact Bn hz)
noncomputable def I0(V:L0)(a:AV):Option (List PyData):=match BX V a with
 |some d=>(match d with
  |.list xs=>a0 xs
  |.tuple xs=>a0 xs
  |_=>aa)
 |aa=>aa
theorem F4(h:I0 V a=a0 xs):BX V a=a0 (.list xs)\/BX V a=a0 (.tuple xs):=by
 unfold I0 at h
 cases e:BX V a with
 |none=>rw[e]at h;exact nS h
 |some d =>
  rw[e]at h
  cases d with
  |list O=>obtain rfl:=ae h;exact .inl rfl
  |tuple O=>obtain rfl:=ae h;exact .inr rfl
  |_=>exact nS h
theorem KT.inSeq{Q:Bool->L0->Prop}(ha:BX V a=a0 d)(hb:I0 V b=a0 xs)(u:dI xs=a6)(Y:d.canLay0=a6)(U:d.depth<=100)(h:Q (xs.any λy=>fX y d) V):KT F m V .In a b Q X:=by
 refine λva vb s hs ra T=>X1p (ra.readsS hs.inv ha) λas B=>?_;have z:F.A.units+1+min (cI xs) d.depth<cLine:=by have:=F.room.un;unfold cLine;exact lin [d.depth,F.A.units,F.k,min (cI xs) d.depth] [] (.c (.A (.A V1 K1) V3) EB) [.b V0 Et,.c (.A V1 (.M 20 V2)) BI,.b V3 V0] rfl U this (iv (cI xs) d.depth)
 rcases F4 hb with e|e
 .exact X1p (T.readsS hs.inv e) λbs O=>PySem.SeqAt.in_list_reads O B u Y z ⟨V,L2.refl _ _ _ _,hs,_,rfl,h⟩
 .exact X1p (T.readsS hs.inv e) λbs O=>PySem.SeqAt.in_tuple_reads O B u Y z ⟨V,L2.refl _ _ _ _,hs,_,rfl,h⟩
theorem KT.notInSeq{Q:Bool->L0->Prop}(ha:BX V a=a0 d)(hb:I0 V b=a0 xs)(u:dI xs=a6)(Y:d.canLay0=a6)(U:d.depth<=100)(h:Q (!xs.any λy=>fX y d) V):KT F m V .NotIn a b Q X:=by
 refine λva vb s hs ra T=>X1p (ra.readsS hs.inv ha) λas B=>?_;have z:F.A.units+1+min (cI xs) d.depth<cLine:=by have:=F.room.un;unfold cLine;exact lin [d.depth,F.A.units,F.k,min (cI xs) d.depth] [] (.c (.A (.A V1 K1) V3) EB) [.b V0 Et,.c (.A V1 (.M 20 V2)) BI,.b V3 V0] rfl U this (iv (cI xs) d.depth)
 rcases F4 hb with e|e
 .exact X1p (T.readsS hs.inv e) λbs O=>PySem.SeqAt.notIn_list_reads O B u Y z ⟨V,L2.refl _ _ _ _,hs,_,rfl,h⟩
 .exact X1p (T.readsS hs.inv e) λbs O=>PySem.SeqAt.notIn_tuple_reads O B u Y z ⟨V,L2.refl _ _ _ _,hs,_,rfl,h⟩
theorem KT.inStr{Q:Bool->L0->Prop}(h:Q (eS x y) V):KT F m V .In (.str y) (.str x) Q X:=by
 refine λY z s hs u O=>X1l Y u.inv λZ=>?_;obtain⟨_,rfl⟩:=O.inv;exact SB.contains ⟨V,L2.refl _ _ _ _,hs,_,rfl,h⟩
theorem KT.notInDict{Q:Bool->L0->Prop}(hb:dd V b=a0 l)(h:Q (!(A2 l k).isSome) V):KT F m V .NotIn (sp k) b Q X:=by
 refine λY y s hs T O=>X4lpp Y T.spot λt tx ty n e d=>X3lpppp y (O.dct hs.inv hb) λad es n' e' z B U=>X1pp (RepD.xs (S:=S) U) λxs u Z0=>?_;clear U;subst Z0;have q:=u.at_ k;refine wpAny_notIn_heap (Br F) (D2 e) z (Ec u B e') ⟨V,L2.toks _ _ _ _ _,hs.tok _,_,rfl,?_⟩
 have:(atKey xs (key k)).isSome=(A2 l k).isSome:=by
  revert q
  cases A2 l k<;>cases atKey xs (key k)<;>simp
 rwa [this]
end
end
section
variable {S:Sta}
structure Meth(nm:Str)(T id:String):Prop where
 pa:PlainAttrs T
 slot:Slot T nm id
 ty:typeOf (.builtin id)=pure (.type "method_descriptor")
section
variable {F:Fx S}{m:L4}{V:L0}{s:ag}{X:a8->ag->Prop}{Q:AV->L0->Prop}{K:Fl->L4->L0->Prop}
theorem rep_obj(r:Rep S.cv s.heap (F.D V) a v)(hs:F.St m V s)(h:tyA V a=a0 t):s.TypeIs v t.name/\∀b,v=.ref b->∃ob,s.heap.get? b=a0 ob/\ob.dict=none:=by
 cases a with
 |none=>obtain rfl:=ae h;rw[show v=.none from r.inv];exact⟨rfl,nofun⟩
 |bool b=>obtain rfl:=ae h;rw[show v=.bool b from r.inv];exact⟨rfl,nofun⟩
 |int n=>obtain rfl:=ae h;refine X1l v r.inv λu=>?_;exact⟨rfl,nofun⟩
 |str x=>obtain rfl:=ae h;refine X1l v r.inv λu=>?_;exact⟨rfl,nofun⟩
 |tup l=>obtain rfl:=ae h;refine X3lpp v r.inv λa b c f Z=>?_;exact⟨⟨_,f,rfl⟩,λZ q=>bE q▸⟨_,f,rfl⟩⟩
 |list l=>obtain rfl:=ae h;refine X3lpp v r.inv λa b c f Z=>?_;exact⟨⟨_,f,rfl⟩,λZ q=>bE q▸⟨_,f,rfl⟩⟩
 |dict l=>obtain rfl:=ae h;refine X3lpp v r.inv λa b c f Z=>?_;exact⟨⟨_,f,rfl⟩,λZ q=>bE q▸⟨_,f,rfl⟩⟩
 |loc ad z =>
  rw[show v=.ref ad from r.inv]
  unfold tyA at h;dsimp only at h
  cases e:V ad with
  |none=>rw[e]at h;exact nS h
  |some o =>
   rw[e]at h
   cases o with
   |list l'=>obtain rfl:=ae h;refine X2pp ((hs.inv.rep ad _ e).inv) λvs n f q=>?_;exact⟨⟨_,f,rfl⟩,λZ q=>bE q▸⟨_,f,rfl⟩⟩
   |dict l'=>obtain rfl:=ae h;refine X2pp ((hs.inv.rep ad _ e).inv) λvs n f q=>?_;exact⟨⟨_,f,rfl⟩,λZ q=>bE q▸⟨_,f,rfl⟩⟩
   |_=>exact(Al rfl h).elim
 |_=>exact(Al rfl h).elim
theorem L7(h:DE o=a6):attributeBase o nm env x=x:=by
 cases o with
 |Call f as ks p =>
  cases f with
  |Name i q =>
   cases as with
   |nil =>
    cases ks with|nil=>exact(aQ h).elim|cons _ _=>rfl
   |cons _ _=>rfl
  |_=>rfl
 |_=>rfl
theorem Iy(d:CEs F.tb F.sc pes es)(Y:pes.length<29):((backTo pos (fE pes F.env)).all (λx=>!x.1) && (backToKw pos (keywordEach [] F.env)).all (λx=>x.1.isSome)
   && decide (pes.length+([]:List Keyword).length+(if ([]:List Keyword).isEmpty then 0 else 1)<30))=a6:=by
 have T:(backTo pos (fE pes F.env)).all (λx=>!x.1)=a6:=by
  have:=G9 (pos:=pos) d
  rw[cB];intro x u;rw[List.any_eq_false]at this
  have:=this x u
  simpa using this
 have z:(backToKw pos (keywordEach [] F.env)).all (λx=>x.1.isSome)=a6:=rfl;rw[T,z]
 simp
 exact lin [pes.length] [] (.c V0 K30) [.c V0 K29] rfl Y
def ArgsT(F:Fx S)(m:L4)(V:L0)(es:List E)(P:List AV->L0->Prop)(X:a8->ag->Prop):Prop:=match es with
 |[]=>P [] V
 |es=>EsT F m V es P X
theorem ET.meth(hn:ixS AT nm=a0 n)
  (h:ET F m V o (λa Aa=>∃t U,Meth nm (Ty.name t) U/\tyA Aa a=a0 t/\ArgsT F m Aa args (λd Ab=>CT F m Ab (.builtin U) (a::d) Q X) X) X):ET F m V (.meth o n args) Q X:=by
 intro pe hc s hs;obtain⟨po,a,ap,T,p,rfl,O,B,Y,ho,hk,ha⟩:=hc.inv
 have:a=nm:=BO hk hn
 clear hn;subst this;refine wpAny_Call_method_lateS (L7 O) (Iy ha Y) (by simpa using B) ((h _ ho s hs).out ?_)
 intro ov Aa Ac Ai z hR1;obtain⟨av,u,t,U,hm,hty,y⟩:=hR1;refine An (rep_obj u z hty) λhT hd=>⟨t.name,U,hm.pa,hm.slot,hm.ty,hT,λb e=>hd b e,?_⟩
 cases args with
 |nil =>
  obtain rfl:=ha.inv_nil;exact EY (Mk.builtin U) z ((y [ov] Ac z (.cons u .nil)).later Ai)
 |cons e0 r0 =>
  refine X2lppp T ha.inv λZ Z hn1 Z0 hr1=>CY (.cons hn1 Z0 hr1) (Mk.builtin U) y z ?_;exact λvals d Ab Aj Ap Ag rl q=>(q (ov::vals) Aj Ag (.cons (u.st Ap Ag) rl)).later (Ai.trans Ap)
theorem KY:ixS AT "append"=a0 0:=by decide +kernel
theorem ix_pop:ixS AT "pop"=a0 1:=by decide +kernel
theorem ix_clear:ixS AT "clear"=a0 3:=by decide +kernel
theorem ix_get:ixS AT "get"=a0 6:=by decide +kernel
theorem ix_join:ixS AT "join"=a0 8:=by decide +kernel
theorem Hb:Meth "append" (Ty.name .list) "list.append":=⟨fo,PySem.F.slot_list_append,PySem.F.type_list_append⟩
theorem meth_pop:Meth "pop" (Ty.name .list) "list.pop":=⟨fo,PySem.F.slot_list_pop,PySem.F.type_list_pop⟩
theorem KF:Meth "join" (Ty.name .str) "str.join":=⟨PySem.F.plainAttrs_str,PySem.F.slot_str_join,PySem.F.type_str_join⟩
theorem Fd{ad:bg}{l l':List AV}{h':Heap}{vs:List a8}{n:Nat}{s':ag}(hs:F.St m V s)(U:V ad=a0 (.list l))(k:dr ad s.heap h')(e:h'.get? ad=a0 (AH vs.toArray n))(r:RepL S.cv s.heap (F.D V) l' vs) :
  F.St m (V.set ad (.list l')) { s with heap:=h' }/\L2 F.P F.O V s (V.set ad (.list l')) { s with heap:=h' }:=by
 have y:Dom V ad:=by unfold Dom;rw[U];simp
 have z:Ext (F.D V) s.heap h':=Ext.of_but λb o d e=>k b o (λq=>d (.inl (q▸y))) e;obtain⟨Y,st⟩:=hs.upd (h':=h') y (λc o ne e=>k c o ne e) s.toks (o:=.list l') (.list e (r.ext z λb q=>.inl (q.imp (λq=>(A6 q).elim (λ(q:b=ad)=>by rwa [q]) id) id)))
 exact⟨Y,st.any⟩
theorem CT.append{ad:bg}{O:Nat}{l:List AV}{x:AV}(T:V ad=a0 (.list l))(hz:l.length<=big)(h:Q .none (V.set ad (.list (l++[x])))):CT F m V (.builtin "list.append") [.loc ad O,x] Q X:=by
 refine λvals s hs r=>X2lpp vals r.two λv u Y d=>X3ppp (Y.lst hs.inv (B1 T)) λad' vs n Z0 e U=>?_;subst Z0;obtain rfl:=(bE Y.inv).symm;refine wpAny_list_append_plain (items:=vs.toArray) ⟨n,e⟩ (λh' B z=>?_) (by rw[aG,U.length];exact Bn hz)
 refine X1p B λn' y=>?_;have ee:vs.toArray.push u=(vs++[u]).toArray:=by simp
 rw[ee]at y;exact An (Fd (s':=s) hs T z.extBut y (U.snoc d)) λh1 st=>⟨_,st,h1,_,.none,h⟩
theorem RepL.dropLast(r:RepL cv h D l vs):RepL cv h D l.dropLast vs.dropLast:=by
 rw[List.dropLast_eq_take,List.dropLast_eq_take,r.length];exact r.take _
theorem CT.pop{ad:bg}{ii:Nat}{l:List AV}{x:AV}(ho:V ad=a0 (.list l))(hx:l.getLast?=a0 x)(hz:l.length<=big)(h:Q x (V.set ad (.list l.dropLast))):CT F m V (.builtin "list.pop") [.loc ad ii] Q X:=by
 refine λvals s hs r=>X1lp vals r.one λv O=>X3ppp (O.lst hs.inv (B1 ho)) λad' vs n Z0 e U=>?_;subst Z0;obtain rfl:=(bE O.inv).symm;have Y:l[l.length - 1]?=a0 x:=by rwa [<- List.getLast?_eq_getElem?]
 refine X1pp (U.get Y) λu hu ru=>?_;have T:vs.toArray[vs.toArray.size - 1]?=a0 u:=by rw[aG,U.length];simpa using hu
 refine call_meets PySem.F.slot_list_pop ⟨_,e,rfl⟩ PySem.F.entry_list_pop (PySem.F.args_list_pop_1 _) (PySem.MeetsSeq.list_pop_last ad vs.toArray n u T (by rw[aG,U.length];exact Bn hz)) ⟨e,?_⟩
 have y:vs≠[]:=by rintro rfl;simp at T
 have ee:vs.toArray.eraseIdxIfInBounds (vs.toArray.size - 1)=vs.dropLast.toArray:=by
  have z:vs.length - 1<vs.length:=by have:=List.length_pos_iff.mpr y;exact lin [vs.length - 1,vs.length] [] (.c V0 V1) [.d (.A V0 K1) V1] rfl (ao (lin [vs.length] [] (.b K1 V0) [.c K0 V0] rfl this))
  simp only[aG,Array.eraseIdxIfInBounds,aG,z,dif_pos];simp[List.eraseIdx_length_sub_one]
 have hk:dr ad s.heap (s.heap.update ad (bH λxs=>xs.eraseIdxIfInBounds (vs.toArray.size - 1))):=(bU ..).extBut;have B:bH (λxs=>xs.eraseIdxIfInBounds (vs.toArray.size - 1)) (AH vs.toArray n)=AH vs.dropLast.toArray (if (vs.dropLast.toArray.size == vs.toArray.size) then n else n+1):=by
  simp only[bH,ee]
 have e':=bZ (bH λxs=>xs.eraseIdxIfInBounds (vs.toArray.size - 1)) e (by rw[B];rfl)
 rw[B]at e';exact An (Fd (s':=s) hs ho hk e' U.dropLast) λh1 st=>⟨_,st,h1,_,ru.st st h1,h⟩
noncomputable def Bs(l:List (Ah×AV))(k:Ah)(x:AV):List (Ah×AV):=if (A2 l k).isSome then l.map (λp=>if p.1=k then (k,x) else p) else l++[(k,x)]
theorem Dj(r:XsOf cv h D l xs)(k:Ah):(atKey xs (key k)).isSome=(A2 l k).isSome:=by
 have q:=r.at_ k
 revert q
 cases A2 l k<;>cases atKey xs (key k)<;>simp
theorem XsOf.put(T:Rep cv h D x v)(r:XsOf cv h D l xs):XsOf cv h D (l.map (λp=>if p.1=k then (k,x) else p)) (xs.map (putAt (key k) v)):=by
 induction r with
 |nil=>exact .nil
 | @cons k' B l t _ _ _ O xs e d r rs y =>
  rw[b5,b5]
  by_cases q:k'=k
  .subst q
   have:putAt (key k') v (key k',t,O)=(key k',t,v):=by simp[putAt]
   rw[this];simp only[if_true];exact .cons e d T y
  .have u:¬key k'=key k:=λz=>q (Hg z)
   have:putAt (key k) v (key k',t,O)=(key k',t,O):=by simp[putAt,u]
   rw[this];simp only[if_neg q];exact .cons e d r y
theorem XsOf.snoc(e:h.get? t=a0 (BD #[.int k.1 tx,.int k.2 ty] n))(d:¬D t)(O:Rep cv h D x v) :
  ∀{l:List (Ah×AV)}{xs:List (List Int×bg×a8)},XsOf cv h D l xs->XsOf cv h D (l++[(k,x)]) (xs++[(key k,t,v)]):=by
 intro l xs r
 induction r with|nil=>exact .cons e d O .nil|cons u z Y _ y=>exact .cons u z Y y
theorem Ed(h:A2 l k=aa):∀p∈l,p.1≠k:=by
 unfold A2 at h;rw[Option.map_eq_none_iff,List.find?_eq_none]at h;exact λp d e=>h p d (by simp[e])
set_option tactic.hygienic true in
theorem Dg(k:Ah)(x:AV)(h:(l.map (·.1)).Nodup):((Bs l k x).map (·.1)).Nodup:=by
 unfold Bs
 split
 .have:(l.map (λp=>if p.1=k then (k,x) else p)).map (·.1)=l.map (·.1):=by
   rw[aV];apply b4;intro p _;simp only[Function.comp_apply]
   split
   .rename_i q;exact q.symm
   .rfl
  rwa [this]
 .rename_i q
  have d:A2 l k=aa:=by simpa using q
  rw[a9,cM];refine⟨h,by simp,?_⟩
  intro a ha b z e;simp at z;obtain⟨p,Y,rfl⟩:=aJ.mp ha;exact Ed d p Y (e.trans z)
theorem B2{h:Heap}{d:bg}{xs:List (List Int×bg×a8)}(u:h.DictOfH (be (bJ S.prog S.w)) d xs):∃n,h.get? d=a0 (AU (xs.map (cH (be (bJ S.prog S.w)))).toArray n):=by
 obtain⟨o,es,ep,U,⟨T,z,Y⟩,y,O,_,_⟩:=u;refine⟨ep,?_⟩;obtain⟨c,dx,dt,B⟩:=o;simp only at T z Y y;subst T z Y y
 have:es=(xs.map (cH (be (bJ S.prog S.w)))).toArray:=by rw[<- O]
 rw[U,this]
theorem setItemD{ad:bg}{l:List (Ah×AV)}{k:Ah}{x:AV}{y B:a8}{Q':Unit->ag->Prop}(ho:V ad=a0 (.dict l))(hz:l.length<=big)(hs:F.St m V s)(rk:Rep S.cv s.heap (F.D V) (sp k) y)(T:Rep S.cv s.heap (F.D V) x B)
  (h:∀s',F.St m (V.set ad (.dict (Bs l k x))) s'->L2 F.P F.O V s (V.set ad (.dict (Bs l k x))) s'->Q' () s'):wpAny (model S.prog S.w) F.A (setItem (.ref ad) y B) Q' X s:=by
 refine X4lpp y rk.spot λt tx ty n e d=>X3ppppp ((Rep.loc (cv:=S.cv) (h:=s.heap) (D:=F.D V) ad 0).dct hs.inv (CV ho)) λad' es n' e1 e' sm nd rd=>?_;obtain rfl:=bE e1;obtain⟨xs,u,rfl⟩:=RepD.xs (S:=S) rd;have Y:xs.length=l.length:=by have:=rd.length;simpa using this
 refine wpAny_setItem_heap (Br F) (D2 e) (Ec u nd e') (λh' hm z=>?_) (by rw[Y];exact Bn hz)
 refine X1p (B2 hm) λn2 e2=>?_;have da:Dom V ad:=by unfold Dom;rw[ho];simp
 have e0:Ext (F.D V) s.heap h':=Ext.of_but λb o d e=>z.extBut b o (λq=>d (.inl (q▸da))) e;have hD:∀b,DN F.N (V.set ad (.dict (Bs l k x))) b->DN F.N V b\/s.heap.get? b=aa:=λb q=>.inl (q.imp (λq=>(A6 q).elim (λ(q:b=ad)=>by rwa [q]) id) id)
 have U:XsOf S.cv s.heap (F.D V) (Bs l k x) (storedH xs (key k) t B):=by
  unfold Bs storedH;rw[Dj u k]
  split
  .exact u.put T
  .exact u.snoc e d T
 exact An (hs.upd (h':=h') da (λc o ne e=>z.extBut c o ne e) (s.toks+(be (bJ S.prog S.w)).draws (key k)) (o:=.dict (Bs l k x)) (.dict e2 sm (Dg k x nd) (U.repD.ext e0 hD))) λh1 st=>h _ h1 st.any
set_option tactic.hygienic true in
theorem ST.setitem(hn:AK e=a6)(h:ET F m V e (λx Aa=>ET F m Aa o (λa Y=>ET F m Y i (λk O=>∃ad z l kk,a=.loc ad z/\k=sp kk/\O ad=a0 (.dict l)/\l.length<=big/\K .next m (O.set ad (.dict (Bs l kk x)))) X) X) X):ST F m V (.setitem o i e) K X:=by
 refine λps hc s hs=>X5lpppp ps hc.inv λZ Z Z Z Z hns ho hi d=>wpAny_Assign_Subscript ((h _ d s hs).out ?_) (B8 d hn);intro vx Aa Ac Ai Ad u;obtain⟨x,rx,AQ⟩:=u;refine(AQ _ ho Ac Ad).out ?_;intro va Y Aj T U u;obtain⟨a,ra,Bu⟩:=u;refine(Bu _ hi Aj U).out ?_;intro vk O BR B AY u;obtain⟨k,rk,ad,z,l,kk,rfl,rfl,hd,hz,hK⟩:=u;obtain rfl:=ra.inv;exact setItemD hd hz AY rk ((rx.st T U).st B AY) λs' h' y=>⟨.next,m,_,((Ai.trans T).trans B).trans y,h',trivial,hK⟩
end
end
section
variable {S:Sta}
section
variable {tb:List Nat}{env:Env}{N Np:bg->Prop}{b:L0×ag}{m:L4}{V:L0}{s:ag}{D:bg}
theorem Loc.map(l:Loc cv g tb env m N V h)(own:∀a o,Own env a->h.get? a=a0 o->h'.get? a=a0 o)(U:∀a,Own env a->¬Dom V' a)(r:∀{av v},Rep cv h (DN N V) av v->Rep cv h' (DN Np V') av v):Loc cv g tb env m Np V' h':=by
 obtain⟨y,cm,n,cc,O,ap,cl,u⟩:=l;refine⟨y,cm,?_,λz a hz=>?_,λa q=>⟨U a q,(O a q).2⟩,ap,cl,λz j av B T=>?_⟩
 .refine X3pp n λo es ep e d=>?_;exact⟨o,es,ep,own _ _ (.inl rfl) e,d⟩
 .refine X1pp (cc z a hz) λo e d=>?_;exact⟨o,own _ _ (.inr ⟨z,hz⟩) e,d⟩
 .exact LocAt.map (u z j av B T) (λh2=>r h2) (λZ Y=>Y) (λZ Y=>Y)
theorem St.apart(hs:Internal.St S tb env N P b m V s)(k:∀b o,s.heap.get? b=a0 o->h'.get? b=a0 o)(u:s.heap.get? D=aa)(y:∃o,h'.get? D=a0 o/\∀vs,o.data≠.fields vs) :
  Internal.St S tb env (λa=>N a\/a=D) P b m V { s with heap:=h',toks:=tk }/\L2 noO noO V s V { s with heap:=h',toks:=tk }:=by
 refine An (hs.grow k tk) λY st=>?_;have U:Ext (DN N V) s.heap h':=Ext.of_keeps k;have T:∀b,DN (λa=>N a\/a=D) V b->DN N V b\/s.heap.get? b=aa:=by
  rintro b (q|q|q)
  .exact .inl (.inl q)
  .exact .inl (.inr q)
  .exact .inr (q▸u)
 refine⟨⟨⟨Y.inv.keep,Y.inv.gens,Y.inv.drawn,Y.inv.os,Y.inv.σg,?_,?_,λa o e=>(hs.inv.rep a o e).ext U T (k a)⟩,?_,Y.frm,λa q=>.inl (hs.pN a q),hs.new,λa q=>.inl (hs.own a q),hs.gb⟩,st⟩
 .rintro a d (q|q)
  .exact hs.inv.σN a d q
  .exact hs.inv.not_dom (q▸u) d
 .rintro a (q|q)
  .exact Y.inv.Nin a q
  .exact q▸y
 .have O:=hs.loc
  obtain⟨_,_,_,_,O,_⟩:=O;exact hs.loc.map (λa o Z e=>k a o e) (λa q=>(O a q).1) λr=>r.ext U T
theorem St.open_(hs:Internal.St S tb env Np P b m V s)(z:∀a,N a->Np a)(y:∀a,Own env a->N a)(T:∀a,P a->N a):Internal.St S tb env N P b m V s:=by
 have B:∀b,DN N V b->DN Np V b\/s.heap.get? b=aa:=λb q=>.inl (q.imp id (z b));refine⟨⟨hs.inv.keep,hs.inv.gens,hs.inv.drawn,hs.inv.os,hs.inv.σg,λa d q=>hs.inv.σN a d (z a q),λa q=>hs.inv.Nin a (z a q),λa o e=>(hs.inv.rep a o e).ext (Ext.refl _ _) B λZ q=>q⟩,?_,hs.frm,T,hs.new,y,hs.gb⟩;have O:=hs.loc;obtain⟨_,_,_,_,O,_⟩:=O;exact hs.loc.map (λa o Z e=>e) (λa q=>(O a q).1) λr=>r.ext (Ext.refl _ _) B
theorem St.take(hs:Internal.St S tb env (λa=>N a\/a=D) P b m V s)(y:∀a,Own env a->N a)(T:∀a,P a->N a)(U:¬N D)(B:b.2.heap.get? D=aa)(r:Mm S.cv s.heap (DN (λa=>N a\/a=D) V) o D):Internal.St S tb env N P b m (V.set D o) s:=by
 have u:∀b,DN N (V.set D o) b->DN (λa=>N a\/a=D) V b\/s.heap.get? b=aa:=λb q=>.inl (q.elim (λq=>(A6 q).elim (λq=>.inr (.inr q)) .inl) λq=>.inr (.inl q));refine⟨⟨hs.inv.keep,hs.inv.gens,hs.inv.drawn,hs.inv.os,λa d=>(A6 d).elim (λ(q:a=D)=>by rw[q];exact hs.gb D B) (hs.inv.σg a),λa d q=>(A6 d).elim (λ(z:a=D)=>U (z▸q)) λd=>hs.inv.σN a d (.inl q),λa q=>hs.inv.Nin a (.inl q),λa Y e=>?_⟩,?_,?_,T,hs.new,y,hs.gb⟩
 .by_cases z:a=D
  .clear hs U B;subst z;rw[L0.set_self]at e;obtain rfl:=ae e;exact r.ext (Ext.refl _ _) u λZ q=>q
  .rw[L0.set_ne _ _ z]at e;exact(hs.inv.rep a Y e).ext (Ext.refl _ _) u λZ q=>q
 .have O:=hs.loc
  obtain⟨_,_,_,_,O,_⟩:=O;exact hs.loc.map (λa o Z e=>e) (λa q d=>(A6 d).elim (λ(z:a=D)=>U (z▸y a q)) (O a q).1) λr=>r.ext (Ext.refl _ _) u
 .have f:=hs.frm
  exact⟨f.ext,f.frm,λa d=>(A6 d).elim (λ(z:a=D)=>.inr (by rwa [z])) (f.dom a),f.there⟩
end
section
variable {F:Fx S}{m:L4}{V:L0}{s:ag}{X:a8->ag->Prop}{Q:AV->L0->Prop}
noncomputable def Fx.with(F:Fx S)(D:bg):Fx S:=⟨F.A,F.tb,F.env,F.b,λa=>F.N a\/a=D,F.k,F.room.wide (λZ q=>.inl q),F.fk,F.fg,F.fb,F.fc⟩
def Like(F F':Fx S):Prop:=F'.A=F.A/\F'.tb=F.tb/\F'.env=F.env/\F'.k=F.k
def E9(F:Fx S)(m:L4)(X:a8->ag->Prop)(Q:List (AV×AV)->L0->Prop):List E->List E->List (AV×AV)->L0->Prop
 |[],[],r,V=>Q r V
 |k::ks,v::vs,r,V=>ET F m V k (λa Aa=>ET F m Aa v (λb Ab=>E9 F m X Q ks vs (r++[(a,b)]) Ab) X) X
 |_,_,_,_=>False
class inductive RepP(cv:Nat->a8)(h:Heap)(D:bg->Prop):List (AV×AV)->List (a8×a8)->Prop
 |nil:RepP cv h D [] []
 |cons {a b:AV}{u v:a8}{l:List (AV×AV)}{vs:List (a8×a8)}:Rep cv h D a u->Rep cv h D b v->RepP cv h D l vs->RepP cv h D ((a,b)::l) ((u,v)::vs)
theorem RepP.step(x:L2 P O V s V' s')(y:∀a,O a->N a)(d:∀a,P a->N a)(r:RepP cv s.heap (DN N V) l vs):RepP cv s'.heap (DN N V') l vs:=by
 induction r with|nil=>exact .nil|cons U B _ z=>exact .cons (U.step x y d) (B.step x y d) z
theorem RepP.app(r:RepP cv h D l vs)(Y:RepP cv h D l' vs'):RepP cv h D (l++l') (vs++vs'):=by
 induction r with|nil=>exact Y|cons B O _ y=>exact .cons B O y
theorem I9{Q:List (AV×AV)->L0->Prop}{ks:List E}:∀{vs:List E}{U:List (Option aT)}{u:List aT}{r:List (AV×AV)}{V:L0}{s:ag}{ru:List (a8×a8)}{d:List (a8×a8)->ag->Prop},CKs F.tb F.sc U ks->CEs F.tb F.sc u vs->E9 F m X Q ks vs r V->F.St m V s->RepP S.cv s.heap (F.D V) r ru ->
  (∀us Y V' s',L2 F.P F.O V s V' s'->F.St m V' s'->RepP S.cv s'.heap (F.D V') Y (ru++us)->Q Y V'->d us s')->wpAny (model S.prog S.w) F.A (evalPairs (pairTrees U u F.env pos)) d X s:=by
 induction ks with
 |nil =>
  intro vs U u r V s ru d z T h hs rr hQ
  cases vs with
  |cons v vs=>exact h.elim
  |nil =>
   obtain rfl:=z.inv;obtain rfl:=T.inv_nil;exact pairTrees_nil_walk (hQ [] r V s (L2.refl _ _ _ _) hs (by rwa [aF]) h)
 |cons k ks ih =>
  intro vs U u r V s ru d z T h hs rr hQ
  cases vs with
  |nil=>exact h.elim
  |cons v vs =>
   obtain⟨pk,U,rfl,z,hks⟩:=z.inv;obtain⟨pv,u,rfl,hn,T,hvs⟩:=T.inv;refine pairTrees_cons_walk ((h _ z s hs).out ?_);intro uk Aa Ac Ai Ad y;obtain⟨a,ra,AQ⟩:=y;refine(AQ _ T Ac Ad).out ?_;intro uv Ab Aj Ap Ag y;obtain⟨b,rb,Bu⟩:=y;have rr2:=((rr.step Ai Ad.own Ad.pN).step Ap Ag.own Ag.pN).app (.cons (ra.st Ap Ag) rb .nil);refine ih hks hvs Bu Ag rr2 λus Y V' s' st' h' B q=>hQ _ Y V' s' ((Ai.trans Ap).trans st') h' ?_ q;rw[aH]at B;exact B
noncomputable def mkD:List (AV×AV)->List (Ah×AV)->Option (List (Ah×AV))
 |[],l=>a0 l
 |p::r,l=>(spot? p.1).bind λk=>mkD r (Bs l k p.2)
theorem mkD_cons(h:mkD ((a,b)::r) l=a0 l'):∃k:Ah,a=sp k/\mkD r (Bs l k b)=a0 l':=by
 exact X1pp (AC (show (spot? a).bind (λk=>mkD r (Bs l k b))=a0 l' from h)) λk Y z=>⟨k,spot?_out Y,z⟩
theorem JT(hDN:F.N D)(nO:¬F.O D)(bD:F.b.2.heap.get? D=aa)(sm:(D == cG)=a7):∀{r:List (AV×AV)}{us:List (a8×a8)}{l l':List (Ah×AV)}{es:List bT}{n:Nat}{s:ag},mkD r l=a0 l'->l.length+r.length<=big->F.St m V s->RepP S.cv s.heap (F.D V) r us ->
  s.heap.get? D=a0 (AU es.toArray n)->(l.map (·.1)).Nodup->RepD S.cv s.heap (F.D V) l es ->
  (∀s' B n',F.St m V s'->L2 F.P (·=D) V s V s'->s'.heap.get? D=a0 (AU (aA B) n')->(l'.map (·.1)).Nodup->RepD S.cv s'.heap (F.D V) l' B->Q' PUnit.unit s')->wpAny (model S.prog S.w) F.A (storeAll D us) Q' X s:=by
 intro r
 induction r with
 |nil =>
  intro us l l' es n s Y hz hs rr g nd rd hQ
  cases rr;obtain rfl:=ae Y
  exact ai (hQ s es n hs (L2.refl _ _ _ _) g nd rd)
 |cons p r ih =>
  intro us l l' es n s Y hz hs rr g nd rd hQ
  cases rr with
  | @cons a bb u v _ vs r1 r2 rs =>
   refine X1pp (mkD_cons Y) λkk Z0 Y=>?_;subst Z0
   .refine X4lpp u (Rep.spot (k:=kk) r1) λt tx ty n1 e d=>?_
    obtain⟨xs,hx,rfl⟩:=RepD.xs (S:=S) rd;have U:xs.length=l.length:=by have:=rd.length;simpa using this
    show wpAny _ _ (forIn _ _ _) _ _ _;rw[eh];refine ac (ac (wpAny_dictSet_heap (room_0 F) (D2 e) (Ec hx nd g) (λh' hmm sb=>?_) (by rw[U];exact Bn (lin [l.length,((sp kk,bb)::r).length,big] [] (.b V0 V2) [.b (.A V0 V1) V2] rfl hz))))
    refine X1p (B2 hmm) λn2 e2=>?_;obtain⟨h2,T⟩:=(hs.tok (s.toks+(be (bJ S.prog S.w)).draws (key kk))).turnN (h':=h') hDN nO bD sb.extBut ⟨_,e2,λvs z=>by exact nDf rfl z⟩
    have y:L2 F.P (·=D) V s V { s with heap:=h',toks:=s.toks+(be (bJ S.prog S.w)).draws (key kk) }:=⟨T.ext,T.frm,T.dom,T.there⟩
    have hO:∀a,a=D->F.N a:=λa q=>q▸hDN;have xs':XsOf S.cv s.heap (F.D V) (Bs l kk bb) (storedH xs (key kk) t v):=by
     unfold Bs storedH;rw[Dj hx kk]
     split
     .exact hx.put r2
     .exact hx.snoc e d r2
    have hd:(Bs l kk bb).length<=l.length+1:=by unfold Bs;split<;>simp
    exact ai (ih Y (by have hz':l.length+(r.length+1)<=big:=hz;have hd':(Bs l kk bb).length<=l.length+1:=hd;exact am (gf hd' _) (lin [l.length,r.length,big] [] (.b (.A (.A V0 K1) V1) V2) [.b (.A V0 (.A V1 K1)) V2] rfl hz')) h2 (rs.step y hO hs.pN) e2 (Dg _ _ nd) (xs'.repD.step y hO hs.pN) λs' B n' h3 st3 g3 nd3 rd3=>(hQ s' B n' h3 (y.trans st3) g3 nd3 rd3))
theorem CKs.len(h:CKs tb sc pks ks):pks.length=ks.length/\pks.all (·.isSome)=a6:=by
 induction ks generalizing pks with
 |nil=>obtain rfl:=h.inv;exact⟨rfl,rfl⟩
 |cons k ks y=>refine X2lpp pks h.inv λe r Z q=>?_;exact⟨congrArg fF (y q).1,(y q).2⟩
theorem CEs.len(h:CEs tb sc pks ks):pks.length=ks.length:=by
 induction ks generalizing pks with
 |nil=>obtain rfl:=h.inv_nil;rfl
 |cons k ks y=>refine X2lppp pks h.inv λe r Z Z q=>?_;exact congrArg fF (y q)
theorem ET.dict0(h:Fresh V (.dict []) (.dict []) Q):ET F m V (.dict [] []) Q X:=by
 refine λpe d s hs=>X3lpp pe d.inv λZ Z Z z B=>?_
 cases z;cases B
 exact wpAny_Dict_empty (Df (tk:=s.toks) (es:=[]) (l:=[]) hs (Ax _ _) (Ay _) (aE _ rfl) .nil .nil h)
theorem ET.dict{k v:E}{ks vs:List E}(hlen:ks.length=vs.length)(h15:ks.length<15)(h:∀F':Fx S,Like F F'->E9 F' m X (λr V'=>∃l,mkD r []=a0 l/\r.length<=15/\Fresh V' (.dict l) (.dict l) Q) (k::ks) (v::vs) [] V):ET F m V (.dict (k::ks) (v::vs)) Q X:=by
 refine λpe hc s hs=>X3lpp pe hc.inv λpks pvs p hk hv=>An ((CKs.len (ks:=k::ks) hk)) λl1 l2=>?_;have l3:=CEs.len (ks:=v::vs) hv;refine wpAny_Dict_any l2 (by rw[l1,l3];simp[hlen]) (by intro e;subst e;simp at l1) (by rw[l1];simp;exact lin [ks.length] [] (.b V0 K14) [.c V0 K15] rfl h15) ?_
 have B:s.heap.get? s.heap.objs.size=aa:=Ay _;obtain⟨h1,st1⟩:=St.apart (D:=s.heap.objs.size) (tk:=s.toks) hs (Ax _ { cls:=.type "dict",data:=.dict #[] }) B ⟨_,aE _ rfl,λvs z=>by exact nDf rfl z⟩
 generalize hD:s.heap.objs.size=D at *;have g1:(s.heap.push { cls:=.type "dict",data:=.dict #[] }).get? D=a0 (AU #[] 0):=by rw[<- hD];exact aE _ rfl
 have h1':(F.with D).St m V { s with heap:=s.heap.push { cls:=.type "dict",data:=.dict #[] } }:=h1
 have U:¬F.N D:=λq=>by refine X1pp (hs.inv.Nin D q) λo e nf=>?_;rw[B]at e;exact nS e
 have nO:¬F.O D:=λq=>U (hs.own D q);have bD:F.b.2.heap.get? D=aa:=hs.frm.new B;refine I9 (F:=F.with D) (ru:=[]) hk hv (h (F.with D) ⟨rfl,rfl,rfl,rfl⟩) h1' .nil ?_
 refine λus r' Y Aj Ap Ag rr hR1=>X1ppp hR1 λl hml hr15 hfr=>?_;have gD:=Ap.ext.obj D _ g1 (λd=>d.elim (λd=>h1'.inv.σN D d (.inr rfl)) λd=>d.elim nO λd=>U (hs.pN D d));refine JT (F:=F.with D) (V:=Y) (es:=[]) (l:=[]) (.inr rfl) nO bD (hs.inv.not_sm B) hml (by simp;exact am hr15 (by decide)) Ag (by simpa using rr) gD .nil .nil ?_
 intro s' es' n' h3 T g3 nd3 u;have y:L2 F.P F.O V s Y s':=by
  have z:=(st1.any (O:=F.O)).trans Ap;have nD':∀{a o},s.heap.get? a=a0 o->¬a=D:=λe q=>by rw[q,B]at e;exact nS e
  exact⟨⟨λa o e d=>T.ext.obj a o (z.ext.obj a o e d) λq=>q.elim (z.ndom e λq=>d (.inl q)) λq=>q.elim (nD' e) λq=>d (.inr (.inr q))⟩,λa o e n ho d=>by
   exact X1pppp (z.frm a o e n ho d) λo' e' c' r1 r2=>X1pppp (T.frm a o' e' n (nD' e) (z.ndom e d)) λo'' e'' c'' r1' r2'=>⟨o'',e'',c''.trans c',r1'.trans r1,r2'.trans r2⟩,z.dom,λa o e=>by
   exact X1p (z.there a o e) λo' e'=>T.there a o' e'⟩
 have nDσ:¬Dom Y D:=λd=>h3.inv.σN D d (.inr rfl)
 rcases hfr with q|⟨ii,q⟩
 .have h4:F.St m Y s':=St.open_ (N:=F.N) h3 (λa q=>.inl q) hs.own hs.pN
  exact⟨Y,y,h4,_,.dict g3 (λd=>d.elim nDσ U) (hs.inv.not_sm B) nd3 (u.ext (Ext.refl _ _) λb q=>.inl (q.imp id .inl)),q⟩
 .have h4:F.St m (Y.set D (.dict l)) s':=St.take h3 hs.own hs.pN U bD (.dict g3 (hs.inv.not_sm B) nd3 u)
  exact⟨_,⟨y.ext,y.frm,λa d=>(A6 d).elim (λ(z:a=D)=>.inr (by rwa [z])) (y.dom a),y.there⟩,h4,_,.loc D ii,q D nDσ⟩
end
end
section
variable {S:Sta}
section
variable {F:Fx S}{m:L4}{V:L0}{s:ag}{X:a8->ag->Prop}{Q:AV->L0->Prop}
theorem GJ{bs:List Bool}{vs:List a8}{i:Nat}{v:a8}(r:RepL cv h D (bs.map .bool) vs)(e:vs[i]?=a0 v):∃b,bs[i]?=a0 b/\v=.bool b:=by
 induction bs generalizing vs i with
 |nil=>rw[show vs=[] from r.inv]at e;exact(Al gX e).elim
 |cons b bs y =>
  obtain⟨u,z,rfl,a,r⟩:=r.inv
  cases i with|zero=>exact⟨b,rfl,(ae e).symm.trans a.inv⟩|succ i=>exact y (vs:=z) (i:=i) r e
theorem Kc(bs:List Bool):(bq bs.length).all (λi=>bs.getD i a6)=bs.all id:=by
 have:(bq bs.length).map (λi=>bs.getD i a6)=bs:=by
  apply eB;intro i
  by_cases h:i<bs.length
  .simp[h]
  .simp[h]
 have h:=List.all_map (f:=λi=>bs.getD i a6) (p:=id) (l:=bq bs.length);rw[this]at h;exact h.symm
theorem Kb(bs:List Bool):(bq bs.length).any (λi=>bs.getD i a6)=bs.any id:=by
 have:(bq bs.length).map (λi=>bs.getD i a6)=bs:=by
  apply eB;intro i
  by_cases h:i<bs.length
  .simp[h]
  .simp[h]
 have h:=iF (f:=λi=>bs.getD i a6) (p:=id) (l:=bq bs.length);rw[this]at h;exact h.symm
theorem CT.all(hq:S.hx=aa){a:AV}{bs:List Bool}(ha:dl V a=a0 (bs.map .bool))(h:Q (.bool (bs.all id)) V):CT F m V (.builtin "all") [a] Q X:=by
 refine λvals s hs r=>X1lp vals r.one λv y=>X3lpp v (y.lst hs.inv ha) λad vs n e U=>?_;have O:s.heap.IsList ad vs.toArray:=⟨_,e,rfl,n,rfl⟩;have d:ad≠s.heap.objs.size:=bQ (ba e);have Y:vs.toArray.size=bs.length:=by have:=U.length;simpa using this
 refine call_all_walk (fH O ⟨_,_,_,_,_,_,λi=>bs.getD i a6,rfl,Walks.list (A:=F.A.in1) (F.room.quiet hq) s.heap.objs.size ad d vs.toArray,⟨⟨_,aE _ rfl,rfl,rfl⟩,⟨_,aw _ e,rfl,n,rfl⟩⟩,?_,λh' tk k=>?_⟩)
 .refine λi v s' B E' u hq=>X1pl v (GJ U (i:=i) (by simpa using u)) λb z=>cE ?_
  have:bs.getD i a6=b:=by simp[List.getD,z]
  simp only[this]at hq;exact hq
 .refine An (hs.grow (h':=h') (λb o eb=>k b o (by simp;exact bQ (ba eb)) (aw _ eb)) tk) λT st=>?_
  rw[Y,Kc];exact⟨V,st.any,T,_,.bool _,h⟩
theorem CT.any(hq:S.hx=aa){a:AV}{bs:List Bool}(ha:dl V a=a0 (bs.map .bool))(h:Q (.bool (bs.any id)) V):CT F m V (.builtin "any") [a] Q X:=by
 refine λvals s hs r=>X1lp vals r.one λv y=>X3lpp v (y.lst hs.inv ha) λad vs n e U=>?_;have O:s.heap.IsList ad vs.toArray:=⟨_,e,rfl,n,rfl⟩;have d:ad≠s.heap.objs.size:=bQ (ba e);have Y:vs.toArray.size=bs.length:=by have:=U.length;simpa using this
 refine call_any_walk (fH O ⟨_,_,_,_,_,_,λi=>bs.getD i a6,rfl,Walks.list (A:=F.A.in1) (F.room.quiet hq) s.heap.objs.size ad d vs.toArray,⟨⟨_,aE _ rfl,rfl,rfl⟩,⟨_,aw _ e,rfl,n,rfl⟩⟩,?_,λh' tk k=>?_⟩)
 .refine λi v s' B E' u hq=>X1pl v (GJ U (i:=i) (by simpa using u)) λb z=>cE ?_
  have:bs.getD i a6=b:=by simp[List.getD,z]
  simp only[this]at hq;exact hq
 .refine An (hs.grow (h':=h') (λb o eb=>k b o (by simp;exact bQ (ba eb)) (aw _ eb)) tk) λT st=>?_
  rw[Y,Kb];exact⟨V,st.any,T,_,.bool _,h⟩
theorem strsAre{h:Heap}{D:bg->Prop}{cv:Nat->a8}{ys:List Str}(r:RepL cv h D (ys.map .str) vs):StrsAre vs ys:=by
 induction ys generalizing vs with
 |nil=>rw[show vs=[] from r.inv];exact .nil
 |cons y ys Y =>
  exact X2lpp vs r.inv λu z a d=>X1l u a.inv λt=>.cons _ _ (Y d)
theorem CT.join(ha:dl V a=a0 (ys.map .str))(U:(ys.map (·.length)).sum+ys.length * x.length<=1000000)(h:Q (.str (Txt.join x ys)) V):CT F m V (.builtin "str.join") [.str x,a] Q X:=by
 exact λvals s hs r=>X2lpp vals r.two λv u Y O=>X1l v Y.inv λZ=>X3lpp u (O.lst hs.inv ha) λad vs n e T=>join_list ⟨_,e,rfl,n,rfl⟩ (by simpa using strsAre T) (am U (by decide)) λd k=>Bm _ hs (.str _ _) h
theorem Walks.heapDict(hh:A.handled=none)(I d:bg)(U:d≠I)(es:Array bT)(ep:Nat) :
  Walks S.prog S.w A I [I,d] [I] es.size (λi v=>∃e,es[i]?=a0 e/\v=e.key) (λi h=>h.IsKeyIter I d i es.size ep/\DictE h d es ep) where
 sub:=λb z=>by simp at z;simp[z]
 frame:=λZ Z Z st O=>⟨(let ⟨o,ho,r⟩:=st.1;⟨o,O I (by simp) o ho,r⟩),O d (by simp) _ st.2⟩
 item:=λi s Q E hi st u=>by
  exact It st.1 st.2 (e:=es[i]) (by simp[hi]) λh' T Y=>u _ h' s.toks ⟨_,by simp[hi],rfl⟩ ⟨T,Y.extBut d _ U st.2⟩ λb o z e=>Y.extBut b o (λh=>z (by simp[h])) e
 done:=λs Q E st u=>LL hh st.1 st.2 (aB _) λh' B=>u h' s.toks λb o z e=>B b o (λh=>z (by simp[h])) e
 self:=λZ Z Z Z st u=>wpAny_pyIter_keyiter st.1 u
theorem srcDict(z:(d == cG)=a7):KdlSrc S.prog S.w "dict" d d es.size (λi v=>∃e,es[i]?=a0 e/\v=e.key) (λh=>DictE h d es ep) where
 type:=λZ T=>T.typeIs
 there:=λZ T=>⟨ba T,ba T⟩
 keep:=λZ Z T B=>B d (.inl rfl) _ T
 notList:=by decide
 notTuple:=by decide
 hint:=λZ Z Z Z T hq=>kdl_hint_dict T.typeIs hq
 iter:=λZ Z hh T=>⟨_,_,(λZ Z hq=>Iu z T hq),Walks.heapDict hh _ d (bQ (ba T)) es ep,⟨⟨_,aE _ rfl,rfl,rfl⟩,aw _ T⟩⟩
theorem repKeys(r:RepD cv h D l es):RepL cv h D (l.map λp=>sp p.1) (es.map (·.key)):=by
 induction l generalizing es with|nil=>rw[show es=[] from r.inv];exact .nil|cons p l y=>refine X6lpppp es r.inv λt B T n v z e d a b=>?_;exact .cons (.tup (vs:=[_,_]) e d (.cons (.int _ _) (.cons (.int _ _) .nil))) (y b)
theorem CT.listDict(hq:S.hx=aa)(ha:dd V a=a0 l)(hz:l.length<=big)(h:Fresh V (.list (l.map λp=>sp p.1)) (.list (l.map λp=>sp p.1)) Q):CT F m V (.type "list") [a] Q X:=by
 refine λvals s hs r=>X1lp vals r.one λv O=>X3lppp v (O.dctE hs ha) λad es n e d U=>kdl_call (srcDict (ep:=n) d) (F.room.quiet hq) e (by rw[aG,U.length];exact Bn hz) λh' tk u c' k y hi=>An hi λh1 h2=>?_
 have:u=(es.map (·.key)).toArray:=by
  apply Array.ext
  .simp[h1]
  .refine λi Y B=>X1pp (h2 i u[i] (by simp[Y])) λen T z=>?_
   simp only[List.getElem_toArray,iw];rw[z]
   have:es[i]?=a0 en:=by simpa using T
   rw[ax (by simpa using B)]at this
   rw[ae this]
 rw[this]at y;exact BG (tk:=tk) hs k (Ay _) y (repKeys U) h
end
end
section
variable {S:Sta}
structure Eu(S:Sta)(C:bg):Prop where
 cv:S.cv B0=.ref C
 get:plainGet S.K C "texts"=a6
 has:hasDictIn S.K C=a6
 setattr:eM S.K (.ref C) "__setattr__"=a0 (a0 (.builtin "object.__setattr__"))
 over:plainOver S.K C=a6
 make:makesIn S.K C=a6
structure Field(S:Sta)(C:bg)(nm:Str):Prop where
 find:eM S.K (.ref C) nm=a0 aa
 take:takerIn S.K C nm=a0 aa
noncomputable def Ls(fs:List (Str×AV))(nm:Str):Option AV:=(fs.find? λp=>p.1 == nm).map (·.2)
noncomputable def JB:List (Str×AV)->Str->AV->List (Str×AV)
 |[],nm,x=>[(nm,x)]
 |p::r,nm,x=>if p.1 == nm then (p.1,x)::r else p::JB r nm x
noncomputable def Eo(V:L0):AV->Option (List (Str×AV))
 |.inst fs=>a0 fs
 |.loc a _=>(V a).bind λo=>o.inst?.bind λdx=>(V dx).bind Mg.attrs?
 |_=>aa
theorem E7(Y:V a=a0 (.inst dx))(z:V dx=a0 (.attrs fs)):Eo V (.loc a i)=a0 fs:=by
 show (V a).bind _=_;rw[Y];show (V dx).bind _=_;rw[z];rfl
theorem RepF.get(r:RepF cv h D fs es):(∀{x},Ls fs nm=a0 x->∃v,getL nm es=a0 (a0 v)/\Rep cv h D x v)/\(Ls fs nm=aa->getL nm es=a0 aa):=by
 induction fs generalizing es with
 |nil=>rw[show es=[] from r.inv];exact⟨λh=>(Al rfl h).elim,λZ=>rfl⟩
 |cons p l y =>
  obtain⟨n,x⟩:=p;obtain⟨z,t,v,es,rfl,r,rs⟩:=r.inv;have y:=y rs;unfold Ls getL at y ⊢
  by_cases q:(n == nm)=a6
  .have d:(Value.str n t).isStr nm=a6:=q
   simp only[dD,q,d,ef];exact⟨λh=>⟨v,rfl,ae h▸r⟩,λh=>(Al h rfl).elim⟩
  .have u:(n == nm)=a7:=by simpa using q
   have d:(Value.str n t).isStr nm=a7:=u;have B:DictEntry.refKey ⟨z,.str n t,v⟩=a7:=rfl;simp only[dD,u,d,ij,B,Bool.false_or];exact y
theorem RepF.put(u:Rep cv h D x v)(r:RepF cv h D fs es):RepF cv h D (JB fs nm x) (putL nm hsh (.str nm t) v es):=by
 induction fs generalizing es with
 |nil=>rw[show es=[] from r.inv];exact .cons u .nil
 |cons p l Y =>
  obtain⟨n,y⟩:=p;obtain⟨U,z,O,es,rfl,r,rs⟩:=r.inv;unfold JB putL
  by_cases q:(n == nm)=a6
  .have d:(Value.str n z).isStr nm=a6:=q
   simp only[q,d,if_true];exact .cons u rs
  .have T:(n == nm)=a7:=by simpa using q
   have d:(Value.str n z).isStr nm=a7:=T;simp only[T,d,bM,if_false];exact .cons r (Y rs)
theorem RepF.length(r:RepF cv h D fs es):es.length=fs.length:=by
 induction fs generalizing es with
 |nil=>rw[show es=[] from r.inv];rfl
 |cons p l y=>obtain⟨a,b,c,d,rfl,_,r⟩:=r.inv;exact congrArg fF (y r)
section
variable {F:Fx S}{m:L4}{V:L0}{s:ag}{X:a8->ag->Prop}{Q:AV->L0->Prop}{K:Fl->L4->L0->Prop}{C:bg}
theorem Rep.instAt(B:Eu S C)(r:Rep S.cv s.heap (F.D V) a v)(hs:F.St m V s)(h:Eo V a=a0 fs) :
  ∃x dx es n,v=.ref x/\InstAt s.heap x (Dq (.ref C) dx) C (a0 (dictOf es n))/\RepF S.cv s.heap (F.D V) fs es:=by
 cases a with
 |inst fs' =>
  obtain⟨x,dx,es,n,rfl,e,nf,f,d,d2,r⟩:=r.inv;rw[B.cv]at e;exact⟨_,_,_,_,rfl,⟨e,rfl,rfl,f⟩,ae h▸r⟩
 |loc x ii =>
  refine X1pp (AC (show (V x).bind (λo=>o.inst?.bind λdx=>(V dx).bind Mg.attrs?)=a0 fs from h)) λo e O=>X1pp (AC O) λdx z Y=>X1pp (AC Y) λU u y=>?_
  obtain rfl:=Mg.inst?_out z;obtain rfl:=Mg.attrs?_out y;refine An ((hs.inv.rep x _ e).inv) λg Z=>X2pp ((hs.inv.rep dx _ u).inv) λes n T q=>?_;rw[B.cv]at g;exact⟨x,dx,es,n,r.inv,⟨g,rfl,rfl,T⟩,q⟩
 |_=>exact(Al rfl h).elim
noncomputable def noCls:AV->Bool
 |.cls _=>a7
 |_=>a6
theorem Rep.handed(r:Rep cv h D a v)(d:noCls a=a6):handedIn v=a6:=by
 induction r using Rep.casesOn<;>first|rfl|exact(aQ d).elim
theorem ET.attr(B:Eu S C)(hf:Field S C nm)(O:ixS AT nm=a0 n)(hm:m i=a0 a)(ha:Eo V a=a0 fs)(U:Ls fs nm=a0 x)(hc:noCls x=a6)(h:Q x V):ET F m V (.attr (.v i) n) Q X:=by
 refine λpe T s hs=>X4lpp pe T.inv λy q at_ p d hk=>?_
 have:at_=nm:=BO hk O
 clear O;subst this;exact Attribute_name (wpAny_Name (load_v d hm hs λv r=>(X4lpp v (r.instAt B hs ha) λad dx es n' I z=>(X1pp (z.get.1 U) λu Y ru=>(get_value (S.X.keeps hs.inv.keep) I (plainGet_of B.get).1 (findObj_own B.has hf.find rfl Y) (ru.handed hc) (Bm _ hs ru h))))) (A9 d.ok))
theorem setAttrT{ad dx:bg}{nm:Str}{fs:List (Str×AV)}{x:AV}{B:a8}{Q':Unit->ag->Prop}(Y:Eu S C)(hf:Field S C nm)(T:V ad=a0 (.inst dx))(hd:V dx=a0 (.attrs fs))(hz:fs.length<=100)(hs:F.St m V s)(rx:Rep S.cv s.heap (F.D V) x B)
  (h:∀s',F.St m (V.set dx (.attrs (JB fs nm x))) s'->L2 F.P F.O V s (V.set dx (.attrs (JB fs nm x))) s'->Q' () s'):wpAny (model S.prog S.w) F.A (setAttr (.ref ad) nm B) Q' X s:=by
 refine X4ppp ((Rep.loc (cv:=S.cv) (h:=s.heap) (D:=F.D V) ad 0).instAt Y hs (fs:=fs) (E7 T hd)) λx' y es n e1 I u=>?_;obtain rfl:=bE e1;have hdx:y=dx:=by
  refine An ((hs.inv.rep ad _ T).inv) λg Z=>?_;rw[Y.cv]at g;have:=I.at_;rw[g]at this;cases this;rfl
 clear T;subst hdx;have D:s.heap.get? y=a0 (dictOf es n):=I.dict;have da:Dom V y:=by unfold Dom;rw[hd];simp
 have KX:=S.X.keeps hs.inv.keep;refine set_plain KX I Y.setattr ?_;have I1:InstAt ({ s with toks:=s.toks+1 }:ag).heap ad (Dq (.ref C) y) C (a0 (dictOf es n)):=I
 refine osa_open (s:={ s with toks:=s.toks+1 }) (K:=S.K) KX I1 Y.over hf.take λb=>X1pp (any_some Y.has) λcd hc hd'=>ac (ai (ac (ac (wpAny_loadPart I.at_ (ac (Looks.here (s:={ s with toks:=s.toks+1 }) (looks_clsIn KX hc) ?_))))))
 rw[hd'];refine ai (a:=a0 y) (ac (ai (ac ?_)));unfold nsSet;refine ac (ac (wpAny_askSetting (ai (ac (wpAny_mkText (ac (wpAny_loadPart D ?_)))))));dsimp only;have c:(!es.toArray.any (·.key.isStr nm) && es.toArray.any (·.refKey))=a7:=by
  have:es.toArray.any (·.refKey)=a7:=by
   rw[<- Array.any_toList];have gen:∀{fs:List (Str×AV)}{es:List bT},RepF S.cv s.heap (F.D V) fs es->es.any (·.refKey)=a7:=by
    intro fs
    induction fs with|nil=>intro es r;rw[show es=[] from r.inv];rfl|cons p fs U=>intro es r;refine X4lpp es r.inv λZ Z Z Z Z rs=>?_;rw[ij,U rs];rfl
   simpa using gen u
  rw[this,Bool.and_false]
 rw[aRefKeyMayBeTheName_at,c];refine wpAny_updatePart D ?_;have e0:∀(z:Int)(key:a8),fp nm z key B (dictOf es n)=dictOf (putL nm z key B es) (putN nm es n):=λz key=>putName_dict nm z key B es n;have D':∀(z:Int)(key:a8),(s.heap.update y (fp nm z key B)).get? y=a0 (dictOf (putL nm z key B es) (putN nm es n)):=λz key=>by
  have:=bZ (fp nm z key B) D (by rw[e0];rfl)
  rw[e0]at this;exact this
 have len:∀(z:Int)(key:a8)(l:List bT),(putL nm z key B l).length<=l.length+1:=by
  intro z key l
  induction l with|nil=>simp[putL]|cons p r U=>unfold putL;split<;>simp<;>exact lin [(putL nm z key B r).length,r.length] [] (.b V0 (.A V1 K1)) [.b V0 (.A V1 K1)] rfl U
 refine ac (wpAny_lookBehind (D' _ _) (pastItsLine_dict (by rw[aG];refine hW (Bn (am (len _ _ es) ?_));rw[u.length];exact am (Nat.succ_le_succ hz) (by decide))) ?_)
 have kp:∀(z:Int)(key:a8),dr y s.heap (s.heap.update y (fp nm z key B)):=λz key=>(bU ..).extBut;have fin:∀(z:Int)(t:Tok)(tk:Nat),Q' () { s with heap:=s.heap.update y (fp nm z (.str nm t) B),toks:=tk }:=by
  intro z t tk;have e1:Ext (F.D V) s.heap (s.heap.update y (fp nm z (.str nm t) B)):=Ext.of_but λb o d e=>kp _ _ b o (λq=>d (.inl (q▸da))) e
  obtain⟨h1,st⟩:=hs.upd (h':=s.heap.update y (fp nm z (.str nm t) B)) da (λc o ne e=>kp _ _ c o ne e) tk (o:=.attrs (JB fs nm x))
   (.attrs (D' _ _) ((u.put rx).ext e1 λb q=>.inl (q.imp (λq=>(A6 q).elim (λ(q:b=y)=>by rwa [q]) id) id)))
  exact h _ h1 st.any
 exact ai (fin _ _ _)
set_option tactic.hygienic true in
theorem ST.setattr(hC:Eu S C)(hf:Field S C nm)(O:ixS AT nm=a0 n)(hn:AK e=a6)
  (h:ET F m V e (λx Aa=>ET F m Aa o (λa z=>∃ad d dx fs,a=.loc ad d/\z ad=a0 (.inst dx)/\z dx=a0 (.attrs fs)/\fs.length<=100/\K .next m (z.set dx (.attrs (JB fs nm x)))) X) X):ST F m V (.setattr o n e) K X:=by
 refine λps hc s hs=>X5lppp ps hc.inv λpo a pe p q ho hk T=>?_
 have:a=nm:=BO hk O
 clear O;subst this;refine plainObj_wpAny_Assign_Attribute ((h _ T s hs).out ?_) (B8 T hn);intro vx Aa Ac Ai Ad u;obtain⟨x,Y,AQ⟩:=u;refine(AQ _ ho Ac Ad).out ?_;intro va z Aj B U u;obtain⟨a',ra,ad,d,dx,fs,rfl,h3,h4,hz,hK⟩:=u;obtain rfl:=ra.inv;exact setAttrT hC hf h3 h4 hz U (Y.st B U) λs' h' y=>⟨.next,m,_,(Ai.trans B).trans y,h',trivial,hK⟩
theorem ET.method(hC:Eu S C)(hn:ixS AT nm=a0 n)(hf:eM S.K (.ref C) nm=a0 (a0 (.ref f)))(ht:isFn S.K (.ref f)=a6)(hk:keepIn S.K (.ref f)=a6)
  (h:ET F m V o (λa Aa=>(∃fs,Eo Aa a=a0 fs/\Ls fs nm=aa)/\ArgsT F m Aa args (λavs Ab=>CT F m Ab (.ref f) (a::avs) Q X) X) X):ET F m V (.meth o n args) Q X:=by
 intro pe hc s hs;obtain⟨po,a,ap,T,p,rfl,O,B,Y,ho,hk',ha⟩:=hc.inv
 have:a=nm:=BO hk' hn
 clear hn;subst this;have U:=L7 (nm:=a) (env:=F.env) (x:=eval po F.env) O;have hfew:=Iy (pos:=p) ha Y;have d:(ap.endLine == p.line)=a6:=by simpa using B
 show wpAny _ _ (eval (.Call (.Attribute po a ap) T [] p) F.env) _ _ _;rw[arm_eval_Call,U];refine ac ((h _ ho s hs).out ?_);intro ov Aa Ac Ai Ad hR1;obtain⟨av,ra,⟨fs,hfs,hno⟩,y⟩:=hR1;refine ac (dL ?_);have u:methodCallForm (T.length+([]:List Keyword).length) (backTo p (fE T F.env)) (backToKw p (keywordEach [] F.env))=a6:=hfew;have z:methodCallPos a6 po F.env ap p=pure p:=by unfold methodCallPos;simp[d]
 unfold methodCall;rw[u];refine X4ppp (ra.instAt hC Ad hfs) λx dx es n' Z1 I rf=>?_;subst Z1;refine ac (bh (method_fn (S.X.keeps Ad.inv.keep) I (plainGet_of hC.get).1 (plainGet_of hC.get).2 hf (beq_iff_eq.mp ht) (by show (lookIn a (dictOf es n')).map _=_;rw[lookIn_dict,rf.get.2 hno];rfl) (ac (wpAny_of_eq z ?_))))
 cases args with
 |nil =>
  obtain rfl:=ha.inv_nil;exact EY (Mk.own hk) Ad ((y [.ref x] Ac Ad (.cons ra .nil)).later Ai)
 |cons e0 r0 =>
  refine X2lppp T ha.inv λZ Z hn1 Z0 hr1=>CY (.cons hn1 Z0 hr1) (Mk.own hk) y Ad ?_;exact λvals avs Ab Aj Ap Ag rl q=>(q (.ref x::vals) Aj Ag (.cons (ra.st Ap Ag) rl)).later (Ai.trans Ap)
end
end
section
variable {S:Sta}
section
variable {N:bg->Prop}{V V':L0}{v:AV}
theorem View.same:View S N v V v V:=λZ Z hi r=>⟨hi,L2.refl _ _ _ _,r⟩
inductive Froze(V:L0):List bg->AV->AV->Prop
 |same (v:AV):Froze V [] v v
 |list {a:bg}{ii:Nat}{l:List AV}:V a=a0 (.list l)->Froze V [a] (.loc a ii) (.list l)
 |dict {a:bg}{ii:Nat}{l:List (Ah×AV)}:V a=a0 (.dict l)->Froze V [a] (.loc a ii) (.dict l)
class inductive FrozeF(V:L0):List bg->List (Str×AV)->List (Str×AV)->Prop
 |nil:FrozeF V [] [] []
 |cons {as bs:List bg}{n:Str}{v v':AV}{l l':List (Str×AV)}:Froze V as v v'->FrozeF V bs l l'->FrozeF V (as++bs) ((n,v)::l) ((n,v')::l')
noncomputable def L0.dels(V:L0)(as:List bg):L0:=λb=>if b∈as then aa else V b
theorem CU(h:(V.dels as) b=a0 o):b∉as/\V b=a0 o:=by
 unfold L0.dels at h
 by_cases q:b∈as
 .rw[if_pos q]at h;exact nS h
 .rw[if_neg q]at h;exact⟨q,h⟩
theorem Ba(h:a∈as):¬Dom (V.dels as) a:=λd=>d (if_pos h)
theorem Froze.rep(f:Froze V as v v')(hi:Inv S N V s)(z:∀a∈as,a∈al)(st:L2 noO noO V s (V.dels al) s)(r:Rep S.cv s.heap (DN N V) v u):Rep S.cv s.heap (DN N (V.dels al)) v' u:=by
 induction f with
 |same=>exact r.step st (λZ h=>h.elim) (λZ h=>h.elim)
 | @list a U l h =>
  obtain rfl:=r.inv;exact X2pp ((hi.rep a _ h).inv) λvs n e r=>.list e (λd=>d.elim (Ba (z a (.head _))) (hi.σN a (by unfold Dom;rw[h];simp))) (r.step st (λZ h=>h.elim) (λZ h=>h.elim))
 | @dict a U l h =>
  obtain rfl:=r.inv;exact X2pppp ((hi.rep a _ h).inv) λvs n e O y r=>.dict e (λd=>d.elim (Ba (z a (.head _))) (hi.σN a (by unfold Dom;rw[h];simp))) O y (r.step st (λZ h=>h.elim) (λZ h=>h.elim))
theorem FrozeF.rep(hi:Inv S N V s)(st:L2 noO noO V s (V.dels al) s)(f:FrozeF V as fs fs')(z:∀a∈as,a∈al)(r:RepF S.cv s.heap (DN N V) fs es):RepF S.cv s.heap (DN N (V.dels al)) fs' es:=by
 induction f generalizing es with
 |nil=>rw[show es=[] from r.inv];exact .nil
 |cons f Y y =>
  obtain⟨_,_,_,_,rfl,r,rs⟩:=r.inv;exact .cons (f.rep hi (λa h=>z a (aK.mpr (.inl h))) st r) (y (λa h=>z a (aK.mpr (.inr h))) rs)
theorem View.inst(h:V x=a0 (.inst dx))(h':V dx=a0 (.attrs fs))(f:FrozeF V as fs fs'):View S N (.loc x ii) V (.inst fs') (V.dels (x::dx::as)):=λs u hi r=>by
 refine An (hi.drop (V':=V.dels (x::dx::as)) λb o e=>(CU e).2) λi st=>⟨i,st,?_⟩
 ·.obtain rfl:=r.inv
   refine An ((hi.rep x _ h).inv) λe nf=>X2pp ((hi.rep dx _ h').inv) λes n y r=>?_;exact .inst e nf y (λd=>d.elim (Ba (.head _)) (hi.σN x (by unfold Dom;rw[h];simp))) (λd=>d.elim (Ba (.tail _ (.head _))) (hi.σN dx (by unfold Dom;rw[h'];simp)))
    (FrozeF.rep hi st f (λa q=>.tail _ (.tail _ q)) r)
end
section
variable {F:Fx S}{m:L4}{V:L0}{X:a8->ag->Prop}{Q:AV->L0->Prop}{C:bg}
theorem Room.in1(h:Room S N (k+1) A):Room S N k A.in1:=⟨h.hh,h.fr,by have:=h.dp;show A.depth+2 * k<900;exact lin [A.depth,k] [] (.c (.A V0 (.M 2 V1)) Md) [.c (.A V0 (.M 2 (.A V1 K1))) Md] rfl this,by have:=h.un;show A.units+1+20 * k<9000;exact lin [A.units,k] [] (.c (.A (.A V0 K1) (.M 20 V1)) BI) [.c (.A V0 (.M 20 (.A V1 K1))) BI] rfl this⟩
theorem CT.make(hC:Eu S C)(hi:eM S.K (.ref C) "__init__"=a0 (a0 (.ref fI)))(hf:isFn S.K (.ref fI)=a6)(hk:k+1<=F.k)
  (h:∀x dx,¬Dom V x->¬Dom V dx->x≠dx->Mi S k (.ref fI) (.loc x 0::avs) ((V.set dx (.attrs [])).set x (.inst dx)) (λav Ab=>av=.none/\∀N,∃v' u,View S N (.loc x 0) Ab v' u/\Q v' u) Y):CT F m V (.ref C) avs Q (XF F m Y):=by
 refine λvals s hs rl=>wpAny_call ?_;have e1:s=⟨s.heap,s.gens,s.drawn,s.toks,s.os⟩:=rfl;rw[e1];refine make_core (makes_of (S.X.keeps hs.inv.keep) hC.make) (looks_findIn (S.X.keeps hs.inv.keep) hi) (λd=>bind_fn (S.X.keeps hs.inv.keep) d (beq_iff_eq.mp hf)) (.inl rfl) ?_;generalize hA:F.A.under (.builtin "type.__call__" ⟨.ref C::vals,[]⟩)=A';have fx:s.heap.get? s.heap.objs.size=aa:=Ay _;have fy:s.heap.get? (s.heap.objs.size+1)=aa:=by
  cases q:s.heap.get? (s.heap.objs.size+1)with|none=>rfl|some o=>exact absurd (ba q) (de.mpr (hV _))
 have ne:s.heap.objs.size+1≠s.heap.objs.size:=iu _;have g1:(s.heap.push gA).get? s.heap.objs.size=a0 (AU #[] 0):=aE _ rfl;refine An (hs.inv.new (h':=s.heap.push gA) (Ax _ _) s.toks (a:=s.heap.objs.size) fx (o:=.attrs []) (.attrs (es:=[]) g1 .nil)) λi1 st1=>?_;have fz:(s.heap.push gA).get? (s.heap.objs.size+1)=aa:=by
  have:=Ay (s.heap.push gA)
  rw[cN]at this;exact this
 have g2:((s.heap.push gA).push (instObj C s.heap.objs.size)).get? (s.heap.objs.size+1)=a0 (Dq (S.cv B0) s.heap.objs.size):=by
  rw[hC.cv]
  have:=aE (s.heap.push gA) (o:=instObj C s.heap.objs.size) rfl
  rw[cN]at this;exact this
 refine An (i1.new (h':=(s.heap.push gA).push (instObj C s.heap.objs.size)) (Ax _ _) s.toks (a:=s.heap.objs.size+1) fz (o:=.inst s.heap.objs.size) (.inst g2 ⟨C,hC.cv⟩)) λi2 st2=>?_;have st:=st1.trans st2;have eF:A'.frames=F.A.frames:=by rw[<- hA];rfl
 have eP:∀a,Frm A' a->F.P a:=λa ⟨l,y,U⟩=>⟨l,eF▸y,U⟩;have room:Room S F.N k A':=by
  rw[<- hA];have y:(F.A.under (.builtin "type.__call__" ⟨.ref C::vals,[]⟩)).handled=F.A.handled:=rfl;have U:(F.A.under (.builtin "type.__call__" ⟨.ref C::vals,[]⟩)).depth=F.A.depth+1:=rfl;have h3:(F.A.under (.builtin "type.__call__" ⟨.ref C::vals,[]⟩)).units=F.A.units+1:=rfl;exact⟨y.trans F.room.hh,F.room.fr,by rw[U];have:=F.room.dp;exact lin [k,F.k,F.A.depth] [] (.c (.A (.A V2 K1) (.M 2 V0)) Md) [.B 2 (.A V0 K1) V1,.c (.A V2 (.M 2 V1)) Md] rfl hk this,by rw[h3];have:=F.room.un;exact lin [k,F.k,F.A.units] [] (.c (.A (.A V2 K1) (.M 20 V0)) BI) [.B 20 (.A V0 K1) V1,.c (.A V2 (.M 20 V1)) BI] rfl hk this⟩
 have hc:=h (s.heap.objs.size+1) s.heap.objs.size (hs.inv.not_dom fy) (hs.inv.not_dom fx) ne F.N A' (.ref (s.heap.objs.size+1)::vals) _ room i2 (.cons (.loc _ _) (rl.step st (λZ h=>h.elim) (λZ h=>h.elim)));refine dH hc λr s' z=>?_
 cases r with
 |error e =>
  obtain⟨ea,c,V',Ak,y,U,h3,h4,h5⟩:=z;exact⟨ea,c,V',Ak,y,⟨X2ppp U.fly λbase l q1 q2 q3=>⟨base,l,eF▸q1,q2,q3⟩,U.up,U.rest⟩,hs.to ((st.any (P:=F.P) (O:=noO)).trans (h3.wide eP)) h4 (λZ h=>h),h5⟩
 |ok fl =>
  cases fl with
  |ret v =>
   obtain⟨av,Ab,st3,i3,r3,rfl,hq⟩:=z;obtain rfl:=r3.inv;refine X2pp (hq F.N) λv' u hv hQ=>Bo (hv s' (.ref (s.heap.objs.size+1)) i3 (.loc _ _)) λi4 st4 r4=>?_;have T:L2 F.P noO V s u s':=((st.any (P:=F.P) (O:=noO)).trans (st3.wide eP)).trans st4.any;refine⟨rfl,u,T.mono (λZ h=>h.elim),hs.to T i4 (λZ h=>h),v',r4,hQ⟩
  |_=>exact z.elim
end
end
section
open PySem PyProof.Rows PySem.W PySem.Calls PySem.Spec
variable {prog:dN}{w:World}{S:Sta}
structure ExcK(K:Frag)(C:bg):Prop where
 get:eM K (.ref C) "__getattribute__"=a0 (a0 (.builtin "BaseException.__getattribute__"))
 hook:eM K (.ref C) "__getattr__"=a0 aa
 dct:(clsIn K C).isSome=a6
 fnd:eM K (.ref C) "__class__"=a0 (a0 (.builtin "object.__class__"))
 spc:specialIn K (.builtin "object.__class__") "__get__"=a0 (a0 (.builtin "getset_descriptor.__get__"))
 tak:takesIn K (.builtin "object.__class__")=a0 a6
 mro:mroIn K C (.type "object")=a0 a6
 sub:subIn K (.ref C) (.type "BaseException")=a0 a6
theorem LZ(h:o=a0 x):o.bind f=f x:=by rw[h];rfl
theorem Gp{K:Frag}{C:bg}{name:Str}{a g:a8}(d:(clsIn K C).isSome=a6)(ha:eM K (.ref C) name=a0 (a0 a))(Y:specialIn K a "__get__"=a0 (a0 g))(ht:takesIn K a=a0 a6):findObj K C aa name=a0 (.bind g a):=by
 refine X1p (bj.mp d) λB d=>?_;unfold findObj;rw[d,Option.bind_some,ha,Option.bind_some];exact(LZ Y).trans (LZ ht)
theorem LF{K:Frag}{e D:bg}{ox:Obj}{A:c6}{E:a8->ag->Prop}{Q:Option a8->ag->Prop}{s:ag}(x:ExcK K D)(X:K.In s.heap)(I:InstAt s.heap e ox D aa)(h:Q (a0 (.ref D)) { s with toks:=s.toks+1 }) :
  wpAny (model prog w) A (getAttr? (.ref e) "__class__") Q E s:=by
 have T:findObj K D aa "__class__"=a0 (.bind (.builtin "getset_descriptor.__get__") (.builtin "object.__class__")):=Gp x.dct x.fnd x.spc x.tak;obtain⟨hh,g,d,t,os⟩:=s;have U:=I.type (M:=model prog w);have L1:=looks_findIn (M:=model prog w) X x.get;have y:=looks_findIn (M:=model prog w) X x.hook;have z:=looks_find (M:=model prog w) X I T;have Y:Looks (model prog w) hh (isInstance (.ref e) (.type "BaseException")) a6:=U.andThen (looks_subIn X x.sub);unfold getAttr? getAttrBy? getAttrBy;refine ac (wpAny_mkText (ac (eX (bh (ac (U.at (ac (L1.at ?_))))))));show wpAny _ _ (if (onTheHeap (bK D) && ew "BaseException.__getattribute__" == ew "object.__getattribute__")=a6 then _ else getAttrByItsOwn _ _ _ _ _ _) _ _ _;have u:(ew "BaseException.__getattribute__" == ew "object.__getattribute__")=a7:=by decide +kernel
 rw[if_neg (by rw[u,Bool.and_false];simp)]
 unfold getAttrByItsOwn hookBefore;rw[if_pos (show onTheHeap (bK D)=a6 from rfl)]
 refine ac (y.at ?_);unfold callGetattribute;refine ac (eX (bh ?_));rw[if_neg (show ¬(a7 && onTheHeap (ew "BaseException.__getattribute__"))=a6 by simp)]
 unfold boundAndCalled;rw[gM.ga.bind (.ref e)];refine ac (ai (wpAny_call (codeAny_call_builtin gM.ga.plain PySem.F.entry_bexc_ga ?_)));have B:builtinKind "BaseException.__getattribute__"=a0 .slot:=by decide +kernel
 have O:splitId "BaseException.__getattribute__"=a0 ("BaseException", "__getattribute__"):=by decide +kernel
 have ha:=PySem.F.args_bexc_ga (.ref e) (.str "__class__" t);show wpAny _ _ (checkBuiltinCall "BaseException.__getattribute__" ⟨[.ref e,.str "__class__" t],[]⟩) (λZ Ac=>wpAny _ _ (dE.«object.__getattribute__» ⟨[.ref e,.str "__class__" t],[]⟩) _ _ Ac) _ _;simp only[checkBuiltinCall,B,O];refine ac (Y.at ?_)
 repeat (first|assumption|wp_step)
 refine wpAny_loadPart_at I.at_ ?_;rw[I.cls];refine ai (ac (z.at ?_));show wpAny _ _ (holding [ew "object.__class__"] (call (.builtin "getset_descriptor.__get__") [.builtin "object.__class__",.ref e,.ref D]) >>= ret) _ _ _;exact ac (bh (wpAny_call (class_get (s:=⟨hh,g,d,t+1,os⟩) (ox:=ox) (od:=aa) X I x.mro (ai (handed_on (show handedIn (bK D)=a6 from rfl) (ai h))))))
set_option tactic.hygienic true in
theorem kitx_exc{K:Frag}{e D:bg}(x:ExcK K D):KitX K (.ref e) (.ref D) (λh=>∃ox,InstAt h e ox D aa) where
 ty:=λ_ _ _ ⟨_,I⟩=>I.type
 it:=λZ Z X Z=>by
  refine X1p (bj.mp x.dct) λT Y=>?_;unfold clsIn at Y
  split at Y
  .rename_i c' O u B U
   intro A' Q' E' s' k q;unfold isType loadHead;exact ac (wpAny_loadPart (k _ _ (X _ _ U)) (ai q))
  .exact nS Y
 ne:=λh tp dd d n sl X y=>by
  refine X1p (bj.mp x.dct) λT Y=>b8.mpr λq=>?_;have e:D=tp:=bE (beq_iff_eq.mp q);clear q;subst e;unfold clsIn at Y
  split at Y
  .rename_i c' O u B U
   have z:=(X _ _ U).symm.trans y
   cases z
  .exact nS Y
 ca:=λX ⟨_,I⟩ k=>LF x X I k
section
variable {F:Fx S}{m:L4}{V:L0}{X:a8->ag->Prop}{Q:AV->L0->Prop}
theorem CT.isx(B:S.cv c=.ref C)(x:ExcK S.K C)(hs:kitOne S.K (S.cv c) (S.cv j)=a0 b)(h:Q (.bool b) V):CT F m V (.builtin "isinstance") [.exc c,.cls j] Q X:=by
 refine λvals s Y r=>X2lpp vals r.two λv u T z=>?_
 .obtain rfl:=z.inv
  refine X2lppppp v T.inv λa o e U O d n=>?_;have I:InstAt s.heap a o C aa:=⟨e,U.trans B,by obtain⟨⟨vs,q⟩,_⟩:=O;unfold notCls;rw[q],by rw[O.2];trivial⟩
  rw[B]at hs;exact kia_one (kitx_exc x) (S.X.keeps Y.inv.keep) ⟨o,I⟩ hs (by intro q;cases q) λtk=>Bm tk Y (.bool b) h
end
end
section
variable {S:Sta}
structure Wd where
 U:Nat->Bool
 C:bg
 M:Nat->Option bg
noncomputable def bvL:List a8:=[.builtin "len",.builtin "isinstance",.type "int",.type "bool",.type "tuple",.type "list",.type "str",.type "dict",.type "range",.type "enumerate",.builtin "sorted",.builtin "sum",.builtin "abs",.builtin "min",.builtin "max",.builtin "all",.builtin "any"]
noncomputable def bv(i:Nat):a8:=(bvL[i]?).getD (.builtin "any")
noncomputable def isBT:a8->Bool
 |.builtin _=>a6
 |.type _=>a6
 |_=>a7
noncomputable def xsub(c j:Nat):Bool:=j == 17 || j == 18 || j == c
structure Good(S:Sta)(W:Wd):Prop where
 glob:∀i,W.U i=a6->Glob S i (S.cv i)
 bu:∀i,i<17->W.U i=a6
 own:∀i,W.U i=a6->17<=i->i≠28->Mk S (S.cv i)
 base:∀i,i<17->S.cv i=bv i
 six:∃t,S.cv 28=.int 6 t
 floor:Eu S W.C
 texts:Field S W.C "texts"
 cells:Field S W.C "own"
 exc:∀i,18<=i->i<=27->W.U i=a6->∃x C bm nid ini,ixS GT x=a0 i/\S.cv i=.ref C/\OwnCls x C bm nid S.mg S.g/\ExcBaseFacts "ValueError" nid ini bm
 exk:∀c C,18<=c->c<=27->W.U c=a6->S.cv c=.ref C->ExcK S.K C
 sub:∀c j,18<=c->c<=27->W.U c=a6->17<=j->j<=27->W.U j=a6->exmOne S.K (S.cv c) (S.cv j)=a0 (xsub c j)/\kitOne S.K (S.cv c) (S.cv j)=a0 (xsub c j)
 meth:∀n f,W.M n=a0 f->∃nm,ixS AT nm=a0 n/\nm ≠ "texts"/\nm ≠ "own"/\eM S.K (.ref W.C) nm=a0 (a0 (.ref f))/\isFn S.K (.ref f)=a6/\keepIn S.K (.ref f)=a6
section
variable {W:Wd}
theorem bv_able(h:i<17):Mk S (bv i):=by
 have:∀i,i<17->isBT (bv i)=a6:=by decide
 have:=this i h
 revert this
 cases bv i<;>first|(intro _;exact Mk.builtin _)|(intro _;exact Mk.type _)|(intro h;exact nF h)
theorem LT(G:Good S W)(T:W.U i=a6)(y:i≠28):Mk S (S.cv i):=by
 by_cases h:i<17
 .rw[G.base i h]
  exact bv_able h
 .exact G.own i T (de.mp h) y
noncomputable def tyCls:Nat->Option Ty
 |2=>a0 .int
 |3=>a0 .bool
 |4=>a0 .tup
 |5=>a0 .list
 |6=>a0 .str
 |7=>a0 .dict
 |_=>aa
theorem HE(G:Good S W)(z:tyCls j=a0 u):S.cv j=.type u.name/\u≠.none:=by
 match j,z with
 |2,z|3,z|4,z|5,z|6,z|7,z=>rw[G.base _ (bt rfl)];obtain rfl:=ae z;exact⟨rfl,nofun⟩
noncomputable def fld:Nat->Str
 |11 => "texts"
 |_ => "own"
theorem Lq(h:n=11\/n=12):ixS AT (fld n)=a0 n:=by
 rcases h with rfl|rfl<;>decide +kernel
theorem Good.field{S:Sta}(G:Good S W)(h:n=11\/n=12):Field S W.C (fld n):=by
 rcases h with rfl|rfl
 .exact G.texts
 .exact G.cells
theorem Lr{fs:List (Str×AV)}{nm:Str}(h:∀p∈fs,p.1 = "texts"\/p.1 = "own")(Y:nm ≠ "texts")(z:nm ≠ "own"):Ls fs nm=aa:=by
 unfold Ls;rw[Option.map_eq_none_iff,List.find?_eq_none];intro p d e;have e:=eq_of_beq e
 rcases h p d with q|q
 .exact Y (by rw[<- e,q])
 .exact z (by rw[<- e,q])
end
section
variable {F:Fx S}{m:L4}{V:L0}{X:a8->ag->Prop}{Q:AV->L0->Prop}
theorem KT.isBool{Q:Bool->L0->Prop}(h:Q (a == b) V):KT F m V .Is (.bool a) (.bool b) Q X:=by
 intro U y s hs Y O;obtain rfl:=Y.inv;obtain rfl:=O.inv;exact is_bool ⟨V,L2.refl _ _ _ _,hs,_,rfl,h⟩
theorem KT.isNotBool{Q:Bool->L0->Prop}(h:Q (!(a == b)) V):KT F m V .IsNot (.bool a) (.bool b) Q X:=by
 intro U y s hs Y O;obtain rfl:=Y.inv;obtain rfl:=O.inv;exact isnot_bool ⟨V,L2.refl _ _ _ _,hs,_,rfl,h⟩
theorem KT.notInStr{Q:Bool->L0->Prop}(h:Q (!Txt.contains x y) V):KT F m V .NotIn (.str y) (.str x) Q X:=by
 exact λY d s hs z O=>X1l Y z.inv λZ=>X1l d O.inv λZ=>SB.notContains ⟨V,L2.refl _ _ _ _,hs,_,rfl,h⟩
theorem CT.clear{ad:bg}{O:Nat}{l:List AV}(U:V ad=a0 (.list l))(hz:l.length<=big)(h:Q .none (V.set ad (.list []))):CT F m V (.builtin "list.clear") [.loc ad O] Q X:=by
 refine λvals s hs r=>X1lp vals r.one λv Y=>X3ppp (Y.lst hs.inv (B1 U)) λu vs n T e z=>?_;subst T;obtain rfl:=(bE Y.inv).symm;refine call_meets PySem.F.slot_list_clear ⟨_,e,rfl⟩ PySem.F.entry_list_clear (PySem.F.args_list_clear_1 _) (PySem.AutoSeq1.list_clear_list_0 ad vs.toArray n (by rw[aG,z.length];exact Bn hz)) ⟨e,?_⟩
 have B:bH (λZ=>#[]) (AH vs.toArray n)=AH ([]:List a8).toArray (if ((#[]:Array a8).size == vs.toArray.size) then n else n+1):=by
  simp only[bH]
 have y:=bZ (bH λZ=>#[]) e (by rw[B];rfl)
 rw[B]at y;exact An (Fd (s':=s) (vs:=[]) hs U (bU ..).extBut y .nil) λd st=>⟨_,st,d,_,.none,h⟩
theorem CH(h:i.natAbs<=2000000):InLong i :=
 ⟨dG (by decide:-(2 ^ 63:Int)<=-2000000) (Int.neg_le_of_neg_le (dG (Int.le_natAbs (a:=-i)) (by rw[Int.natAbs_neg];exact d4.mpr h))),gH (dG Int.le_natAbs (d4.mpr h)) (by decide:(2000000:Int)<2 ^ 63)⟩
theorem CT.sum2(hq:S.hx=aa)(hx:x.natAbs<=1000000)(U:y.natAbs<=1000000)(h:Q (.int (x+y)) V):CT F m V (.builtin "sum") [.tup [.int x,.int y]] Q X:=by
 refine λvals s hs r=>X1lp vals r.one λv ra=>X4lpp v (Rep.spot (k:=(x,y)) ra) λt z T n e d=>?_;have hT:s.heap.IsTuple t #[.int x z,.int y T]:=⟨_,e,rfl,n,rfl⟩;have Y:t≠s.heap.objs.size:=bQ (ba e);refine call_sum_walk (wpAny_pyIter_tuple hT ⟨_,_,_,_,_,_,λi=>if i=0 then x else y,rfl,Walks.tuple (A:=F.A.in1) (F.room.quiet hq) s.heap.objs.size t Y #[.int x z,.int y T],⟨⟨_,aE _ rfl,rfl,rfl⟩,hT.push _⟩,?_,?_,?_,λh' tk t' k=>?_⟩)
 .intro b O
  rw[cN];refine KI b O ?_ λO=>?_
  .exact eR _
  ·
   rw[ay.mp O];exact cO (ba e)
 .intro i v B
  match i,B with
  |0,B=>exact⟨z,(ae B).symm⟩
  |1,B=>exact⟨T,(ae B).symm⟩
  |i+2,B=>exact nS B
 .intro j u
  match j,u with
  |0,_=>exact⟨CH (am hx (by decide)),by show InLong (0+x);rw[cJ];exact CH (am hx (by decide))⟩
  |1,_=>exact⟨CH (am U (by decide)),by show InLong (0+x+y);rw[cJ];exact CH (am (Int.natAbs_add_le x y) (Nat.add_le_add hx U))⟩
  |j+2,u=>exact(ej j (d8 (d8 u))).elim
 .refine An (hs.grow (h':=h') (λb o eb=>k b o (by simp;exact bQ (ba eb)) (aw _ eb)) tk) λh1 st=>?_
  have e2:preSum (λi=>if i=0 then x else y) 2=x+y:=by show 0+x+y=x+y;rw[cJ]
  exact⟨V,st.any,h1,_,e2▸.int _ _,h⟩
theorem CT.abs(h:Q (.int a.natAbs) V):CT F m V (.builtin "abs") [.int a] Q X:=by
 refine λvals s hs r=>X1lp vals r.one λv Y=>X1l v Y.inv λZ=>call_abs_int λu tk=>An (hs.grow (h':=s.heap) (λb o e=>e) tk) λU st=>?_;have e:(if a<0 then -a else a)=(a.natAbs:Int):=by split<;>omega
 exact⟨V,st.any,U,_,e▸.int _ _,h⟩
theorem Jf:Meth "clear" (Ty.name .list) "list.clear":=⟨fo,PySem.F.slot_list_clear,PySem.F.type_list_clear⟩
theorem CT.min2'(hq:S.hx=aa)(h:Q (.int (min a b)) V):CT F m V (.builtin "min") [.int a,.int b] Q X:=CT.min2 hq (by
 by_cases q:b<a
 .rwa [if_pos q,<- Int.min_eq_right (Int.le_of_lt q)]
 .rwa [if_neg q,<- Int.min_eq_left (gB.mp q)])
theorem CT.max2'(hq:S.hx=aa)(h:Q (.int (max a b)) V):CT F m V (.builtin "max") [.int a,.int b] Q X:=CT.max2 hq (by
 by_cases q:b > a
 .rwa [if_pos q,<- Int.max_eq_right (Int.le_of_lt q)]
 .rwa [if_neg q,<- Int.max_eq_left (gB.mp q)])
end
theorem ET.monoX(h:ET F m V e Q X)(k:∀e s,X e s->X' e s):ET F m V e Q X':=λpe d s hs=>aU (h pe d s hs) (λZ Z q=>q) k
theorem TT.monoX(h:TT F m V e Q X)(k:∀e s,X e s->X' e s):TT F m V e Q X':=λpe d s hs=>aU (h pe d s hs) (λZ Z q=>q) k
theorem Mo.monoX(h:Mo F m V p e G X)(k:∀e s,X e s->X' e s):Mo F m V p e G X' :=
 λpe t B d s hs=>aU (h pe t B d s hs) (λZ Z T=>aU T (λZ Z q=>q) k) k
theorem ET.mu(h:ET F m V e Q X):ET F m V (.mu l e) Q X:=λpe d s hs=>h pe d s hs
theorem TT.mu(h:TT F m V e Q X):TT F m V (.mu l e) Q X:=λpe d s hs=>h pe d s hs
end
section
variable {S:Sta}
set_option genCtorIdx false in
inductive Slot where
 |no
 |at (a:bg) (o:Mg)
noncomputable abbrev Slot.ctorIdx(x:Slot):Nat:=@Slot.casesOn (λ_=>Nat) x 0 (λ_ _=>1)
abbrev LS:=List Slot
noncomputable def Av:LS->L0
 |[],_=>aa
 |.no::r,b=>Av r b
 |.at a o::r,b=>if b=a then a0 o else Av r b
def okS:LS->Prop
 |[]=>True
 |.no::r=>okS r
 |.at a _::r=>Av r a=aa/\okS r
noncomputable def slot(V:LS)(i:Nat):Slot:=V.getD i .no
theorem HJ(h:slot V i=.at a o):.at a o∈V/\i<V.length:=by
 unfold slot at h
 by_cases q:i<V.length
 .rw[aD,ax q]at h
  exact⟨h▸fZ q,q⟩
 .rw[aD,aZ (de.mp q)]at h;cases h
theorem F2:∀{V:LS}{b:bg}{o:Mg},Av V b=a0 o->.at b o∈V
 |[],_,_,h=>by exact nS h
 |.no::r,b,o,h=>.tail _ (F2 (V:=r) h)
 |.at c p::r,b,o,h=>by
  unfold Av at h
  by_cases e:b=c
  .rw[if_pos e]at h;obtain rfl:=ae h;rw[e];exact .head _
  .rw[if_neg e]at h;exact .tail _ (F2 h)
theorem EN:∀{V:LS}{b:bg}{o:Mg},okS V->.at b o∈V->Av V b=a0 o
 |.no::r,b,o,k,h=>by
  rcases az.mp h with q|q
  .cases q
  .exact EN (V:=r) k q
 |.at c p::r,b,o,k,h=>by
  unfold Av
  rcases az.mp h with q|q
  .cases q;exact if_pos rfl
  .have z:=EN k.2 q
   by_cases e:b=c
   .rw[e,k.1]at z;exact nS z
   .rwa [if_neg e]
theorem Az(k:okS V)(h:slot V i=.at a o):Av V a=a0 o:=EN k (HJ h).1
def Fits(V:LS)(i:Nat)(s:Slot):Prop:=∀a o,s=.at a o->Av V a=aa\/∃p,slot V i=.at a p
theorem DQ:∀{V:LS}{i:Nat}{s:Slot},okS V->Fits V i s->okS (V.set i s)
 |[],_,_,_,_=>trivial
 |x::r,0,s,k,f=>by
  show okS (s::r);have O:okS r:=by cases x with|no=>exact k|«at» c p=>exact k.2
  cases s with
  |no=>exact O
  |«at» a o =>
   refine⟨?_,O⟩
   rcases f a o rfl with q|⟨p,q⟩
   .cases x with
    |no=>exact q
    |«at» c Y =>
     unfold Av at q
     by_cases e:a=c
     .rw[if_pos e]at q;exact nS' q
     .rw[if_neg e]at q;exact q
   .have:x=.at a p:=q
    clear f q;subst this;exact k.1
 |x::r,i+1,s,k,f=>by
  show okS (x::r.set i s);have d:okS r->Fits r i s:=λO a o e=>by
   rcases f a o e with q|⟨p,q⟩
   .cases x with
    |no=>exact .inl q
    |«at» c Y =>
     unfold Av at q
     by_cases e:a=c
     .rw[if_pos e]at q;exact nS' q
     .rw[if_neg e]at q;exact .inl q
   .exact .inr ⟨p,q⟩
  cases x with
  |no=>exact DQ (V:=r) k (d k)
  |«at» c p =>
   refine⟨?_,DQ k.2 (d k.2)⟩
   cases h:Av (r.set i s) c with
   |none=>rfl
   |some o =>
    rcases List.mem_or_eq_of_mem_set (F2 h)with q|q
    .have:=EN k.2 q;rw[k.1]at this;exact nS this
    .rcases f c o q.symm with z|⟨Y,z⟩
     .unfold Av at z;rw[if_pos rfl]at z;exact nS' z
     .have:slot r i=.at c Y:=z
      have:=Az k.2 this;rw[k.1]at this;exact nS this
theorem Fh(k:okS V)(f:Fits V i (.at a o))(b:bg)(p:Mg)(h:Av (V.set i (.at a o)) b=a0 p):((Av V).set a o) b=a0 p:=by
 by_cases e:b=a
 .subst e
  rw[L0.set_self]
  by_cases q:i<V.length
  .have:=EN (DQ k f) (List.mem_set q (.at b o));rw[h]at this;exact this.symm
  .rw[List.set_eq_of_length_le (de.mp q)]at h
   rcases f b o rfl with z|⟨Y,z⟩
   .rw[h]at z;exact nS' z
   .exact absurd (HJ z).2 q
 .rw[L0.set_ne _ _ e]
  rcases List.mem_or_eq_of_mem_set (F2 h)with q|q
  .exact EN k q
  .cases q;exact absurd rfl e
theorem Dc(h:¬Dom (Av V) a):Av V a=aa:=dB λq=>h q
abbrev KV:=AV->LS->Prop
abbrev KB:=Bool->LS->Prop
abbrev M:=List (Option AV)
abbrev KS:=Fl->M->LS->Prop
abbrev XL:=Nat->LS->Prop
abbrev BU:XL:=λZ Z=>False
noncomputable def vr(m:M):L4:=λi=>m.getD i aa
def Sub(V:LS)(s:L0):Prop:=∀b o,Av V b=a0 o->s b=a0 o
theorem Sub.rfl:Sub V (Av V):=λZ Z h=>h
inductive Up{α:Type}(K:α->LS->Prop)(v:α)(s:L0):Prop
 |mk (V:LS)(e:Sub V s)(k:okS V)(h:K v V):Up K v s
inductive UpS(K:KS)(fl:Fl)(m':L4)(s:L0):Prop
 |mk (m:M)(V:LS)(em:m'=vr m)(e:Sub V s)(k:okS V)(h:K fl m V):UpS K fl m' s
noncomputable def Ev:M->Nat->AV->M
 |[],0,a=>[a0 a]
 |[],n+1,a=>aa::Ev [] n a
 |_::r,0,a=>a0 a::r
 |x::r,n+1,a=>x::Ev r n a
theorem H3:(if j=n then a else b)=if j+1=n+1 then a else b:=by
 by_cases e:j=n
 .rw[if_pos e,if_pos (congrArg fF e)]
 .rw[if_neg e,if_neg λz=>e (fA z)]
theorem ED:∀(m:M)(i:Nat)(a:AV),vr (Ev m i a)=L4.set (vr m) i a:=by
 intro m i a
 funext j
 unfold vr L4.set
 induction m generalizing i j with
 |nil =>
  induction i generalizing j with
  |zero =>
   cases j with|zero=>exact(if_pos rfl).symm|succ j=>exact(if_neg (f6 j)).symm
  |succ n y =>
   cases j with|zero=>exact(if_neg (f6 n).symm).symm|succ j=>exact(y j).trans H3
 |cons x r y =>
  cases i with
  |zero =>
   cases j with|zero=>exact(if_pos rfl).symm|succ j=>exact(if_neg (f6 j)).symm
  |succ n =>
   cases j with|zero=>exact(if_neg (f6 n).symm).symm|succ j=>exact(y n j).trans H3
theorem Fb(avs:List AV):vr (avs.map a0)=DA avs:=by
 funext i
 unfold vr DA;simp only[aD,aM]
 cases avs[i]?<;>rfl
section
variable {F:Fx S}{m:L4}{V:LS}{s:L0}{X:a8->ag->Prop}
theorem W.less(O:Sub V s)(hs:F.St m s u)(h:F.St m (Av V) u->W F m (Av V) u t P X):W F m s u t P X:=by
 exact An (hs.drop O) λY st=>(h Y).later st.any
theorem ET.less(O:Sub V s)(h:ET F m (Av V) e Q X):ET F m s e Q X:=λpe d Z ht=>W.less O ht λY=>h pe d _ Y
theorem TT.less(O:Sub V s)(h:TT F m (Av V) e Q X):TT F m s e Q X:=λpe d Z ht=>W.less O ht λY=>h pe d _ Y
theorem Rep.less'(O:Sub V s)(hs:F.St m s u)(r:Rep S.cv u.heap (F.D s) av v):Rep S.cv u.heap (F.D (Av V)) av v:=by
 exact An (hs.drop O) λY st=>r.st st.any Y
theorem RepL.less'(O:Sub V s)(hs:F.St m s u)(r:RepL S.cv u.heap (F.D s) av v):RepL S.cv u.heap (F.D (Av V)) av v:=by
 exact An (hs.drop O) λY st=>r.st st.any Y
theorem BT.less(O:Sub V s)(h:BT F m (Av V) op a b Q X):BT F m s op a b Q X:=λY y u hs U B=>W.less O hs λd=>h Y y u d (U.less' O hs) (B.less' O hs)
theorem KT.less(O:Sub V s)(h:KT F m (Av V) op a b Q X):KT F m s op a b Q X:=λY y u hs U B=>W.less O hs λd=>h Y y u d (U.less' O hs) (B.less' O hs)
theorem IT.less(O:Sub V s)(h:IT F m (Av V) a b Q X):IT F m s a b Q X:=λY y u hs B d=>by
 exact An (hs.drop O) λh1 st=>X2ppp (h Y y u h1 (B.less' O hs) (d.less' O hs)) λT U h2 h3 z=>⟨T,U,h2,h3,z.later st.any⟩
theorem CT.less(O:Sub V s)(h:CT F m (Av V) f avs Q X):CT F m s f avs Q X:=λY u hs y=>W.less O hs λT=>h Y u T (y.less' O hs)
end
end
section
noncomputable def ans{α:Type}(lt:Nat->Nat->Bool):KasT α->α
 |.ret a=>a
 |.ask i j k=>ans lt (k (lt i j))
theorem C3(lt:Nat->Nat->Bool)(f:α->KasT β)(t:KasT α):ans lt (t.bind f)=ans lt (f (ans lt t)):=by
 induction t with|ret a=>rfl|ask i j k y=>exact y (lt i j)
def Srt(lt:Nat->Nat->Bool)(p:Array Nat)(k:Nat):Prop:=∀i j,i<j->j<k->lt (p.getD j 0) (p.getD i 0)=a7
structure Ord(lt:Nat->Nat->Bool):Prop where
 trans:∀a b c,lt b a=a7->lt c b=a7->lt c a=a7
 up:∀a b c,lt c a=a6->lt b a=a7->lt c b=a6
 irr:∀a,lt a a=a7
 asym:∀a b,lt a b=a6->¬lt b a=a6
theorem Srt.step(o:Ord lt)(h:Srt lt p k)(Y:0<k)(q:lt (p.getD k 0) (p.getD (k - 1) 0)=a7):Srt lt p (k+1):=by
 intro i j u y
 by_cases e:j=k
 .clear Y y;subst e
  by_cases B:i=j - 1
  .rwa [B]
  .exact o.trans _ _ _ (h i (j - 1) ((bz B).elim (λz=>lin [i,j - 1] [] (.c V0 V1) [.c V0 V1] rfl z) (λz=>lin [i,j,j - 1] [] (.C 0 V0 V2) [.c V0 V1,.b V1 (.A K1 V2),.c V2 V0] rfl u (au.mp (aB ((j) - (1)))) z)) (lin [j - 1,j] [] (.c V0 V1) [.d (.A V0 K1) V1] rfl (ao (lin [i,j] [] (.b K1 V1) [.c V0 V1] rfl u)))) q
 .exact h i j u ((bz e).elim (λz=>lin [j,k] [] (.c V0 V1) [.c V0 V1] rfl z) (λz=>lin [j,k] [] (.C 0 V0 V1) [.c V0 (.A V1 K1),.c V1 V0] rfl y z))
theorem Hz(o:Ord lt)(p:Array Nat)(f:Nat):∀n,0<n->Srt lt p n->n<=ans lt (dz p f n)/\ans lt (dz p f n)<=n+f/\Srt lt p (ans lt (dz p f n)):=by
 induction f with
 |zero=>intro n _ h;exact⟨aB _,aB _,h⟩
 |succ f y =>
  intro n O h;show n<=ans lt (if lt (p.getD n 0) (p.getD (n - 1) 0)=a6 then .ret n else dz p f (n+1))/\ans lt (if lt (p.getD n 0) (p.getD (n - 1) 0)=a6 then .ret n else dz p f (n+1))<=n+(f+1)/\Srt lt p (ans lt (if lt (p.getD n 0) (p.getD (n - 1) 0)=a6 then .ret n else dz p f (n+1)))
  by_cases c:lt (p.getD n 0) (p.getD (n - 1) 0)=a6
  .rw[if_pos c];exact⟨aB _,dv _ _,h⟩
  .rw[if_neg c]
   exact Bo (y (n+1) (iG _) (h.step o O (b8.mpr c))) λa b d=>⟨lin [n,ans lt (dz p f (n+1))] [] (.b V0 V1) [.b (.A V0 K1) V1] rfl a,lin [ans lt (dz p f (n+1)),n,f] [] (.b V0 (.A V1 (.A V2 K1))) [.b V0 (.A (.A V1 K1) V2)] rfl b,d⟩
theorem place_at(o:Ord lt)(p:Array Nat)(k:Nat)(hs:Srt lt p k)(f:Nat):∀l r,l<=r->r<=k->r - l<=f->(∀i,i<l->lt (p.getD k 0) (p.getD i 0)=a7)->(∀i,r<=i->i<k->lt (p.getD k 0) (p.getD i 0)=a6) ->
  ans lt (iy p k f l r)<=k/\(∀i,i<ans lt (iy p k f l r)->lt (p.getD k 0) (p.getD i 0)=a7)/\(∀i,ans lt (iy p k f l r)<=i->i<k->lt (p.getD k 0) (p.getD i 0)=a6):=by
 induction f with
 |zero =>
  intro l r u O Y U y;have e:l=r:=by exact aq (lin [l,r] [] (.b V0 V1) [.b V0 V1] rfl u) (lin [r - l,r,l] [] (.b V1 V2) [.b V0 K0,.b V1 (.A V2 V0)] rfl Y (au.mp (aB ((r) - (l)))))
  clear u Y;subst e;exact⟨O,U,y⟩
 |succ f ih =>
  intro l r u O Y U y;unfold iy
  by_cases c:l >= r
  .rw[if_pos c]
   have e:l=r:=by exact aq (lin [l,r] [] (.b V0 V1) [.b V0 V1] rfl u) (lin [r,l] [] (.b V0 V1) [.b V0 V1] rfl c)
   clear u Y c;subst e;exact⟨O,U,y⟩
  .rw[if_neg c]
   show ans lt (if lt (p.getD k 0) (p.getD ((l+r) / 2) 0)=a6 then _ else _)<=k/\(∀i,i<ans lt (if lt (p.getD k 0) (p.getD ((l+r) / 2) 0)=a6 then _ else _)->_)/\(∀i,ans lt (if lt (p.getD k 0) (p.getD ((l+r) / 2) 0)=a6 then _ else _)<=i->_);have T:l<=(l+r) / 2/\(l+r) / 2<r:=by exact⟨lin [r,l,(l+r) / 2] [] (.B 2 V1 V2) [.i V0 V1,.c (.A V1 V0) (.M 2 (.A V2 K1))] rfl c (Nat.lt_mul_div_succ (l+r) (by decide:0<2)),lin [r,l,(l+r) / 2] [] (.C 2 V2 V0) [.i V0 V1,.b (.M 2 V2) (.A V1 V0)] rfl c (Nat.mul_div_le (l+r) 2)⟩
   generalize (l+r) / 2=m at T
   by_cases q:lt (p.getD k 0) (p.getD m 0)=a6
   .rw[if_pos q]
    refine ih l m T.1 (lin [r,k,m] [] (.b V2 V1) [.b V0 V1,.c V2 V0] rfl O T.2) (lin [r - l,f,m,r,l,m - l] [] (.b V5 V1) [.b V0 (.A V1 K1),.c V2 V3,.b V3 (.A V4 V0),.d (.A V5 V4) V2] rfl Y T.2 (au.mp (aB ((r) - (l)))) (ao (lin [l,m] [] (.b V0 V1) [.b V0 V1] rfl T.1))) U λi h4 h5=>?_
    by_cases e:i=m
    .rwa [e]
    .exact o.up _ _ _ q (hs m i ((bz e).elim (λz=>lin [m,i] [] (.C 0 V0 V1) [.b V0 V1,.c V1 V0] rfl h4 z) (λz=>lin [m,i] [] (.c V0 V1) [.c V0 V1] rfl z)) h5)
   .rw[if_neg q]
    have q:=b8.mpr q;refine ih (m+1) r (lin [m,r] [] (.b (.A V0 K1) V1) [.c V0 V1] rfl T.2) O (lin [r - l,f,l,m,r,r - (m+1)] [] (.b V5 V1) [.b V0 (.A V1 K1),.b V2 V3,.b V4 (.A V2 V0),.d (.A V5 (.A V3 K1)) V4] rfl Y T.1 (au.mp (aB ((r) - (l)))) (ao (lin [m,r] [] (.b (.A V0 K1) V1) [.c V0 V1] rfl T.2))) (λi h4=>?_) y
    by_cases e:i=m
    .rwa [e]
    .exact o.trans _ _ _ (hs i m ((bz e).elim (λz=>lin [i,m] [] (.c V0 V1) [.c V0 V1] rfl z) (λz=>lin [i,m] [] (.C 0 V0 V1) [.c V0 (.A V1 K1),.c V1 V0] rfl h4 z)) (lin [r,k,m] [] (.c V2 V1) [.b V0 V1,.c V2 V0] rfl O T.2)) q
theorem El(B:k<p.size)(Y:l<=k)(i:Nat):(bubble p k (k - l)).getD i 0=if i=l then p.getD k 0 else if l<i/\i<=k then p.getD (i - 1) 0 else p.getD i 0:=by
 have h:=getElem?_bubble B (k - l) (f7 _ _) i;rw[show k - (k - l)=l by exact aq (lin [k,l,k - l,k - (k - l)] [] (.b V3 V1) [.b V0 (.A V1 V2),.d (.A V3 V2) V0] rfl (au.mp (aB ((k) - (l)))) (ao (lin [k - l,k] [] (.b V0 V1) [.b V0 V1] rfl (f7 k l)))) (lin [k,k - l,k - (k - l),l] [] (.b V3 V2) [.b V0 (.A V1 V2),.d (.A V1 V3) V0] rfl (au.mp (aB ((k) - (k - l)))) (ao (lin [l,k] [] (.b V0 V1) [.b V0 V1] rfl Y)))]at h
 rw[bf,h,bf,bf,bf]
 split
 .rfl
 .split<;>rfl
theorem bin_srt(o:Ord lt)(f:Nat):∀(p:Array Nat)(k:Nat),k+f<=p.size->Srt lt p k->Srt lt (ans lt (kas_bin f p k)) (k+f)/\(ans lt (kas_bin f p k)).Perm p:=by
 induction f with
 |zero=>intro p k _ h;exact⟨h,.refl _⟩
 |succ f ih =>
  intro p k hk h;unfold kas_bin;rw[C3];refine Bo (place_at o p k h k 0 k (cR _) (aB _) (f7 _ _) (λi hi=>absurd hi (ej _)) (λi hi T=>absurd T (de.mpr hi))) λY h2 U=>?_;generalize ans lt (iy p k k 0 k)=l at Y h2 U;have hs:k<p.size:=by exact lin [k,f,p.size] [] (.c V0 V2) [.b (.A V0 (.A V1 K1)) V2] rfl hk
  have key:Srt lt (bubble p k (k - l)) (k+1):=by
   intro i j u y;rw[El hs Y,El hs Y]
   by_cases a:i=l
   .clear Y h2;subst a
    rw[if_pos rfl,if_neg (by exact λO=>lin [i,j] [] .no [.c V0 V1,.d V1 V0] rfl u O),if_pos (by exact⟨lin [i,j] [] (.c V0 V1) [.c V0 V1] rfl u,lin [j,k] [] (.b V0 V1) [.c V0 (.A V1 K1)] rfl y⟩)]
    have:=U (j - 1) (lin [i,j,j - 1] [] (.b V0 V2) [.c V0 V1,.b V1 (.A K1 V2)] rfl u (au.mp (aB ((j) - (1))))) (lin [j,k,j - 1] [] (.c V2 V1) [.c V0 (.A V1 K1),.d (.A V2 K1) V0] rfl y (ao (lin [i,j] [] (.b K1 V1) [.c V0 V1] rfl u)))
    exact b8.mpr λq=>by have z:=o.up _ _ _ this (o.irr _);exact o.asym _ _ z q
   .rw[if_neg a]
    by_cases b:j=l
    .clear Y U a;subst b
     rw[if_pos rfl,if_neg (λO=>lin [i,j] [] .no [.c V0 V1,.c V1 V0] rfl u O.1)];exact h2 i (lin [i,j] [] (.c V0 V1) [.c V0 V1] rfl u)
    .rw[if_neg b]
     by_cases c:l<i
     .rw[if_pos (⟨lin [i,j,l] [] (.c V2 V1) [.c V0 V1,.c V2 V0] rfl u c,lin [j,k] [] (.b V0 V1) [.c V0 (.A V1 K1)] rfl y⟩),if_pos (⟨lin [l,i] [] (.c V0 V1) [.c V0 V1] rfl c,lin [i,j,k] [] (.b V0 V2) [.c V0 V1,.c V1 (.A V2 K1)] rfl u y⟩)]
      exact h (i - 1) (j - 1) (lin [i,j,j - 1,i - 1] [] (.c V3 V2) [.c V0 V1,.b V1 (.A K1 V2),.d (.A V3 K1) V0] rfl u (au.mp (aB ((j) - (1)))) (ao (lin [l,i] [] (.b K1 V1) [.c V0 V1] rfl c))) (lin [j,k,j - 1] [] (.c V2 V1) [.c V0 (.A V1 K1),.d (.A V2 K1) V0] rfl y (ao (lin [i,j] [] (.b K1 V1) [.c V0 V1] rfl u)))
     .have ci:¬(l<i/\i<=k):=by exact λO=>lin [l,i] [] .no [.j V0 V1,.c V0 V1] rfl c O.1
      rw[if_neg ci]
      by_cases d:l<j
      .have cj:l<j/\j<=k:=by exact⟨lin [l,j] [] (.c V0 V1) [.c V0 V1] rfl d,lin [j,k] [] (.b V0 V1) [.c V0 (.A V1 K1)] rfl y⟩
       rw[if_pos cj];exact h i (j - 1) ((bz a).elim (λO=>lin [l,j,j - 1,i] [] (.c V3 V2) [.c V0 V1,.b V1 (.A K1 V2),.c V3 V0] rfl d (au.mp (aB ((j) - (1)))) O) (λO=>lin [l,i,j - 1] [] (.C 0 V1 V2) [.j V0 V1,.c V0 V1] rfl c O)) (lin [j,k,j - 1] [] (.c V2 V1) [.c V0 (.A V1 K1),.d (.A V2 K1) V0] rfl y (ao (lin [i,j] [] (.b K1 V1) [.c V0 V1] rfl u)))
      .have cj:¬(l<j/\j<=k):=by exact λO=>lin [l,j] [] .no [.j V0 V1,.c V0 V1] rfl d O.1
       rw[if_neg cj];exact h i j u ((bz a).elim (λO=>(bz b).elim (λB=>lin [l,k,j] [] (.c V2 V1) [.b V0 V1,.c V2 V0] rfl Y B) (λB=>lin [l,j,k] [] (.C 0 V1 V2) [.j V0 V1,.c V0 V1] rfl d B)) (λO=>lin [i,j,l,k] [] (.C 0 V1 V3) [.c V0 V1,.j V2 V1,.c V2 V0] rfl u d O))
  exact An (ih (bubble p k (k - l)) (k+1) (by rw[bubble_size];exact lin [k,f,p.size] [] (.b (.A (.A V0 K1) V1) V2) [.b (.A V0 (.A V1 K1)) V2] rfl hk) key) λa b=>⟨by rw[show k+(f+1)=k+1+f by exact aq (lin [k,f] [] (.b (.A V0 (.A V1 K1)) (.A (.A V0 K1) V1)) [] rfl) (lin [k,f] [] (.b (.A (.A V0 K1) V1) (.A V0 (.A V1 K1))) [] rfl)];exact a,b.trans (bubble_perm _ _ _)⟩
end
section
theorem HM(z:j<=p.size)(B:k<j):(kas_rev p 0 j).getD k 0=p.getD (j - 1 - k) 0:=by
 have h:=getElem?_mirror_all (xs:=p) (i:=0) z k;rw[if_pos ⟨cR _,B⟩,Nat.zero_add]at h;unfold kas_rev;rw[bf,h,bf]
def Fal(lt:Nat->Nat->Bool)(p:Array Nat)(k:Nat):Prop:=∀i j,i<j->j<k->lt (p.getD i 0) (p.getD j 0)=a7
theorem Fal.rev(h:Fal lt p k)(y:k<=p.size):Srt lt (kas_rev p 0 k) k:=by
 intro i j B z;rw[HM y z,HM y (Nat.lt_trans B z)];exact h (k - 1 - j) (k - 1 - i) (lin [i,j,k - 1,k - 1 - i,k - 1 - j] [] (.c V4 V3) [.c V0 V1,.b V2 (.A V0 V3),.d (.A V4 V1) V2] rfl B (au.mp (aB ((k - 1) - (i)))) (ao (lin [j,k,k - 1] [] (.b V0 V2) [.c V0 V1,.b V1 (.A K1 V2)] rfl z (au.mp (aB ((k) - (1))))))) (lin [k - 1 - i,k - 1,k] [] (.c V0 V2) [.b V0 V1,.d (.A V1 K1) V2] rfl (f7 (k - 1) i) (ao (lin [j,k] [] (.b K1 V1) [.c V0 V1] rfl z)))
theorem Fal.step(o:Ord lt)(h:Fal lt p k)(U:0<k)(q:lt (p.getD k 0) (p.getD (k - 1) 0)=a6):Fal lt p (k+1):=by
 have O:lt (p.getD (k - 1) 0) (p.getD k 0)=a7:=b8.mpr (o.asym _ _ q);intro i j u y
 by_cases e:j=k
 .clear U q y;subst e
  by_cases B:i=j - 1
  .rwa [B]
  .exact o.trans _ _ _ O (h i (j - 1) ((bz B).elim (λz=>lin [i,j - 1] [] (.c V0 V1) [.c V0 V1] rfl z) (λz=>lin [i,j,j - 1] [] (.C 0 V0 V2) [.c V0 V1,.b V1 (.A K1 V2),.c V2 V0] rfl u (au.mp (aB ((j) - (1)))) z)) (lin [j - 1,j] [] (.c V0 V1) [.d (.A V0 K1) V1] rfl (ao (lin [i,j] [] (.b K1 V1) [.c V0 V1] rfl u))))
 .exact h i j u ((bz e).elim (λz=>lin [j,k] [] (.c V0 V1) [.c V0 V1] rfl z) (λz=>lin [j,k] [] (.C 0 V0 V1) [.c V0 (.A V1 K1),.c V1 V0] rfl y z))
def Dif(lt:Nat->Nat->Bool)(p:Array Nat):Prop:=∀i j,i≠j->i<p.size->j<p.size->lt (p.getD i 0) (p.getD j 0)=a6\/lt (p.getD j 0) (p.getD i 0)=a6
theorem desc_fal(o:Ord lt)(d:Dif lt p)(f:Nat):∀n,0<n->n+f<=p.size->Fal lt p n->∃Y,ans lt (kas_desc f p n 0)=(p,Y,0)/\n<=Y/\Y<=n+f/\Fal lt p Y:=by
 induction f with
 |zero=>intro n _ _ h;exact⟨n,rfl,aB _,aB _,h⟩
 |succ f y =>
  intro n O hz h
  by_cases c:lt (p.getD n 0) (p.getD (n - 1) 0)=a6
  .refine X1pppp (y (n+1) (iG _) (lin [n,f,p.size] [] (.b (.A (.A V0 K1) V1) V2) [.b (.A V0 (.A V1 K1)) V2] rfl hz) (h.step o O c)) λY e a b q=>⟨Y,?_,lin [n,Y] [] (.b V0 V1) [.b (.A V0 K1) V1] rfl a,lin [Y,n,f] [] (.b V0 (.A V1 (.A V2 K1))) [.b V0 (.A (.A V1 K1) V2)] rfl b,q⟩
   show ans lt (if lt (p.getD n 0) (p.getD (n - 1) 0)=a6 then (if 0 > 0 then _ else kas_desc f p (n+1) 0) else _)=_;rw[if_pos c,if_neg (by decide)]
   exact e
  .refine⟨n,?_,aB _,dv _ _,h⟩
   show ans lt (if lt (p.getD n 0) (p.getD (n - 1) 0)=a6 then _ else KasT.ask (p.getD (n - 1) 0) (p.getD n 0) λd=>if d=a6 then .ret (p,n,0) else _)=_;rw[if_neg c];show ans lt (if lt (p.getD (n - 1) 0) (p.getD n 0)=a6 then .ret (p,n,0) else _)=_;rw[if_pos ((d (n - 1) n (λz=>lin [n - 1,n] [] .no [.D (-1) V0 V1,.d (.A V0 K1) V1] rfl z (ao (lin [n] [] (.b K1 V0) [.c K0 V0] rfl O))) (lin [n,f,p.size,n - 1] [] (.c V3 V2) [.b (.A V0 (.A V1 K1)) V2,.b V3 V0] rfl hz (f7 n (1))) (lin [n,f,p.size] [] (.c V0 V2) [.b (.A V0 (.A V1 K1)) V2] rfl hz)).resolve_right c)]
   rfl
theorem LN(o:Ord lt)(d:Dif lt p)(U:2<=p.size):1<=(ans lt (f8 p.size p)).1/\(ans lt (f8 p.size p)).1<=p.size/\Srt lt (ans lt (f8 p.size p)).2 (ans lt (f8 p.size p)).1/\(ans lt (f8 p.size p)).2.Perm p:=by
 unfold f8;rw[C3];obtain⟨a,b,c⟩:=Hz o p (p.size - 1) 1 Nat.one_pos (λi j u U=>by omega)
 by_cases B:ans lt (dz p (p.size - 1) 1)=1
 .rw[B]
  have q:lt (p.getD 1 0) (p.getD 0 0)=a6:=by
   refine dB λq=>?_
   have:ans lt (dz p (p.size - 1) 1)=ans lt (dz p (p.size - 2) 2):=by
    rw[show p.size - 1=(p.size - 2)+1 by exact aq (lin [p.size,p.size - 2,p.size - 1] [] (.b V2 (.A V1 K1)) [.b V0 (.A K2 V1),.d (.A V2 K1) V0] rfl (au.mp (aB ((p.size) - (2)))) (ao (lin [p.size] [] (.b K1 V0) [.b K2 V0] rfl U))) (lin [p.size,p.size - 1,p.size - 2] [] (.b (.A V2 K1) V1) [.b V0 (.A K1 V1),.d (.A V2 K2) V0] rfl (au.mp (aB ((p.size) - (1)))) (ao (lin [p.size] [] (.b K2 V0) [.b K2 V0] rfl U)))]
    show ans lt (if lt (p.getD 1 0) (p.getD 0 0)=a6 then _ else _)=_;rw[if_neg q]
   have z:=(Hz o p (p.size - 2) 2 (lin [] [] (.c K0 K2) [] rfl) (λi j u U=>by
    have e:i=0/\j=1:=by exact⟨aq (lin [i,j] [] (.b V0 K0) [.c V0 V1,.c V1 K2] rfl u U) (lin [i] [] (.b K0 V0) [] rfl),aq (lin [j] [] (.b V0 K1) [.c V0 K2] rfl U) (lin [i,j] [] (.b K1 V1) [.c V0 V1] rfl u)⟩
    rw[e.1,e.2];exact b8.mpr q)).1
   exact lin [ans lt (dz p (p.size - 1) 1),ans lt (dz p (p.size - 2) 2)] [] .no [.d V0 K1,.D (-1) V0 V1,.b K2 V1] rfl B this z
  rw[if_neg (by simp;exact λO=>lin [p.size] [] .no [.b K2 V0,.D (-1) K1 V0] rfl U O),if_neg (by decide)]
  unfold kas_descPart;rw[C3];obtain⟨Y,e,h3,h4,fl⟩:=desc_fal o d (p.size - 2) 2 (lin [] [] (.c K0 K2) [] rfl) (lin [p.size - 2,p.size] [] (.b (.A K2 V0) V1) [.d (.A V0 K2) V1] rfl (ao (lin [p.size] [] (.b K2 V0) [.b K2 V0] rfl U))) (λi j u U=>by
   have e:i=0/\j=1:=by exact⟨aq (lin [i,j] [] (.b V0 K0) [.c V0 V1,.c V1 K2] rfl u U) (lin [i] [] (.b K0 V0) [] rfl),aq (lin [j] [] (.b V0 K1) [.c V0 K2] rfl U) (lin [i,j] [] (.b K1 V1) [.c V0 V1] rfl u)⟩
   rw[e.1,e.2];exact b8.mpr (o.asym _ _ q))
  rw[e];dsimp only;rw[if_neg (by decide)]
  unfold kas_tail3;rw[C3];exact Bo (Hz o (kas_rev p 0 Y) (p.size - Y) Y (lin [Y] [] (.c K0 V0) [.b K2 V0] rfl h3) (fl.rev (lin [Y,p.size - 2,p.size] [] (.b V0 V2) [.b V0 (.A K2 V1),.d (.A V1 K2) V2] rfl h4 (ao (lin [p.size] [] (.b K2 V0) [.b K2 V0] rfl U))))) λx y z=>⟨by show 1<=ans lt (dz _ _ _);exact lin [Y,ans lt (dz (kas_rev p 0 Y) (p.size - Y) Y)] [] (.b K1 V1) [.b K2 V0,.b V0 V1] rfl h3 x,by show ans lt (dz _ _ _)<=_;exact lin [ans lt (dz (kas_rev p 0 Y) (p.size - Y) Y),Y,p.size - Y,p.size] [] (.b V0 V3) [.b V0 (.A V1 V2),.d (.A V2 V1) V3] rfl y (ao (lin [Y,p.size - 2,p.size] [] (.b V0 V2) [.b V0 (.A K2 V1),.d (.A V1 K2) V2] rfl h4 (ao (lin [p.size] [] (.b K2 V0) [.b K2 V0] rfl U)))),z,gg _ _ _ _⟩
 .generalize hn:ans lt (dz p (p.size - 1) 1)=n at a b c B
  by_cases e2:n=p.size
  .rw[if_pos (by rw[e2];simp)]
   exact⟨a,by show n<=_;exact lin [n,p.size] [] (.b V0 V1) [.d V0 V1] rfl e2,c,.refl _⟩
  .rw[if_neg (by simp;exact e2),if_pos (by exact(bz B).elim (λO=>lin [n] [] (.C 0 K1 V0) [.b K1 V0,.c V0 K1] rfl a O) (λO=>lin [n] [] (.c K1 V0) [.c K1 V0] rfl O))]
   show 1<=(ans lt (if lt (p.getD 0 0) (p.getD (n - 1) 0)=a6 then .ret (n,p) else _)).1/\(ans lt (if lt (p.getD 0 0) (p.getD (n - 1) 0)=a6 then .ret (n,p) else _)).1<=_/\Srt lt (ans lt (if lt (p.getD 0 0) (p.getD (n - 1) 0)=a6 then .ret (n,p) else _)).2 (ans lt (if lt (p.getD 0 0) (p.getD (n - 1) 0)=a6 then .ret (n,p) else _)).1/\(ans lt (if lt (p.getD 0 0) (p.getD (n - 1) 0)=a6 then .ret (n,p) else _)).2.Perm p;have hc:lt (p.getD 0 0) (p.getD (n - 1) 0)=a6:=(d 0 (n - 1) (λO=>(bz B).elim (λT=>lin [n] [] .no [.b K1 V0,.c V0 K1] rfl a T) (λT=>lin [n - 1,n] [] .no [.D (-1) K0 V0,.b V1 (.A K1 V0),.c K1 V1] rfl O (au.mp (aB ((n) - (1)))) T)) (lin [p.size] [] (.c K0 V0) [.b K2 V0] rfl U) (lin [n,p.size - 1,p.size,n - 1] [] (.c V3 V2) [.b V0 (.A K1 V1),.d (.A V1 K1) V2,.d (.A V3 K1) V0] rfl b (ao (lin [p.size] [] (.b K1 V0) [.b K2 V0] rfl U)) (ao (lin [n] [] (.b K1 V0) [.b K1 V0] rfl a)))).resolve_right λq=>by
    have:=c 0 (n - 1) ((bz B).elim (λO=>lin [n,n - 1] [] (.C 0 K0 V1) [.b K1 V0,.c V0 K1] rfl a O) (λO=>lin [n,n - 1] [] (.c K0 V1) [.b V0 (.A K1 V1),.c K1 V0] rfl (au.mp (aB ((n) - (1)))) O)) (lin [n - 1,n] [] (.c V0 V1) [.d (.A V0 K1) V1] rfl (ao (lin [n] [] (.b K1 V0) [.b K1 V0] rfl a)))
    rw[q]at this;exact nT this
   rw[if_pos hc];exact⟨a,by show n<=_;exact lin [n,p.size - 1,p.size] [] (.b V0 V2) [.b V0 (.A K1 V1),.d (.A V1 K1) V2] rfl b (ao (lin [p.size] [] (.b K1 V0) [.b K2 V0] rfl U)),c,.refl _⟩
end
section
theorem sort_srt(o:Ord lt)(U:2<=n)(d:∀i j,i≠j->i<n->j<n->lt i j=a6\/lt j i=a6):Srt lt (ans lt (gh n)) n/\(ans lt (gh n)).Perm (aA (bq n)):=by
 have hz:(aA (bq n)).size=n:=by simp
 have O:∀i,i<n->(aA (bq n)).getD i 0=i:=λi hi=>by
  rw[bf];simp[hi]
 have dd:Dif lt (aA (bq n)):=λi j T hi z=>by
  rw[hz]at hi z;rw[O i hi,O j z];exact d i j T hi z
 have k:=LN o dd (by rwa [hz])
 rw[hz]at k;unfold gh;rw[C3];generalize ans lt (f8 n (aA (bq n)))=r at k;obtain⟨m,p⟩:=r;refine B4 k λa b c e=>?_;dsimp only at a b c e ⊢;have u:p.size=n:=by rw[e.size_eq,hz]
 by_cases q:m<n
 .rw[if_pos q,show max m 1=m by exact aq (lin [max m 1,m] [] (.b V0 V1) [.d V0 V1] rfl (Nat.max_eq_left (lin [m] [] (.b K1 V0) [.b K1 V0] rfl a))) (lin [m,max m 1] [] (.b V0 V1) [.b V0 V1] rfl (Nat.le_max_left m (1)))]
  exact An (bin_srt o (n - m) p m (lin [p.size,n,n - m,m] [] (.b (.A V3 V2) V0) [.D (-1) V0 V1,.d (.A V2 V3) V1] rfl u (ao (lin [m,n] [] (.b V0 V1) [.c V0 V1] rfl q))) c) λx y=>⟨by rw[show m+(n - m)=n by exact aq (lin [n - m,m,n] [] (.b (.A V1 V0) V2) [.d (.A V0 V1) V2] rfl (ao (lin [m,n] [] (.b V0 V1) [.c V0 V1] rfl q))) (lin [n,m,n - m] [] (.b V0 (.A V1 V2)) [.b V0 (.A V1 V2)] rfl (au.mp (aB ((n) - (m)))))]at x;exact x,y.trans e⟩
 .rw[if_neg q]
  have:m=n:=by exact aq (lin [m,n] [] (.b V0 V1) [.b V0 V1] rfl b) (lin [m,n] [] (.b V1 V0) [.j V0 V1] rfl q)
  clear U d hz O dd k b u q;subst this;exact⟨c,e⟩
end
section
open PySem PySem.W PySem.Calls PyProof.Rows
section
variable {prog:dN}{w:World}{A:c6}{E:a8->ag->Prop}{s:ag}{kS D:bg}{ks:List a8}
theorem JX{st:SortSt}{e u:Nat}{out:List a8}{P:PySem.Fin->ag->Prop}(B:s.heap.get? kS=a0 (cw "list" (aA ks) e))(hd:s.heap.get? D=a0 (cw "list" #[] u))(d:D≠kS)
  (U:(arrOf st).map (·.2)=aA out) (hz:out.length<64) (O:ks.length<64) (hf:failedOf st=none)
  (h:∀h' c,(∀b o,b≠kS->b≠D->s.heap.get? b=a0 o->h'.get? b=a0 o)->(∃c',h'.get? kS=a0 (cw "list" #[] c'))->h'.get? D=a0 (cw "list" (aA out) c)->P (.done (.ret .none)) { s with heap:=h' }):wpAny (model prog w) A (ksk_tail D a7 u (.ref kS) st) P E s:=by
 have T:=bU s.heap kS (bH λZ=>(#[]:Array a8));obtain⟨ck,hck⟩:∃ck,(s.heap.update kS (bH λZ=>(#[]:Array a8))).get? kS=a0 (cw "list" #[] ck):=⟨_,gt B λZ=>#[]⟩;have y:=T.extBut D _ d hd;have z:=bU (s.heap.update kS (bH λZ=>(#[]:Array a8))) D (bH λZ=>aA out);obtain⟨c2,hc2⟩:∃c2,((s.heap.update kS (bH λZ=>(#[]:Array a8))).update D (bH λZ=>aA out)).get? D=a0 (cw "list" (aA out) c2):=⟨_,gt y λZ=>aA out⟩;have Y:(aA out).size=out.length:=aG;unfold ksk_tail
 try dsimp only
 rw[U];refine ac (ik B rfl ?_ (by rw[aG,d0];exact lin [ks.length] [] (.b V0 A7) [.c V0 K64] rfl O) (cR _))
 refine ac (wpAny_letGo (ac (seqEpoch_at y rfl (ac (ik y rfl ?_ (cR _) (am (dJ Y) (by rw[d0];exact lin [out.length] [] (.b V0 (.A A7 K1)) [.c V0 K64] rfl hz)))))))
 rw[hf];simp only[bne_self_eq_false,bM,if_false];exact ai (h _ c2 (λb o b1 b2 e=>z.extBut b o b2 (T.extBut b o b1 e)) ⟨ck,z.extBut _ _ (dO d) hck⟩ hc2)
def SkFin(kS D:bg)(ks vs:List a8)(e e1:Nat)(P:PySem.Fin->ag->Prop)(p:Array Nat)(s:ag):Prop :=
 s.heap.get? kS=a0 (cw "list" (aA ks) e)/\s.heap.get? D=a0 (cw "list" #[] e1)/\∀h' c,(∀b o,b≠kS->b≠D->s.heap.get? b=a0 o->h'.get? b=a0 o)->(∃c',h'.get? kS=a0 (cw "list" #[] c')) ->
  h'.get? D=a0 (cw "list" (aA (p.toList.map λi=>vs.getD i bn)) c)->P (.done (.ret .none)) { s with heap:=h' }
def HC(prog:dN)(w:World)(A:c6)(kS D:bg)(ks vs:List a8)(e e1:Nat)(P:PySem.Fin->ag->Prop)(s:ag):Prop :=
 if vs.length<2 then SkFin kS D ks vs e e1 P (bq vs.length).toArray s else wpAny (model prog w) A (keyKind' (aA ks)) (λκ s'=>(gh vs.length).kasWp (kas_ask prog w A κ ks) (SkFin kS D ks vs e e1 P) s') (λZ Z=>False) s
theorem sk_end(B:D≠kS)(Y:ks.length=vs.length)(u:vs.length<64)
  (h:HC prog w A kS D ks vs e O P s) :
  wpAny (model prog w) A (ksk_end D a7 vs.toArray O (.ref kS) (aA ks)) P E s:=by
 unfold HC at h
 by_cases U:vs.length<2
 .rw[if_pos U]at h
  have T:vs.toArray.size<2:=by rwa [aG]
  unfold ksk_end
  try dsimp only
  simp only[bM,if_false];rw[if_pos T,if_pos T];refine ac (ai (ac (ai ?_)))
  try dsimp only
  refine Bo h λf1 f2 f3=>JX f1 f2 B ?_ (by simp;exact lin [vs.length] [] (.c V0 K64) [.c V0 K64] rfl u) (lin [ks.length,vs.length] [] (.c V0 K64) [.d V0 V1,.c V1 K64] rfl Y u) rfl f3
  have O:(((aA ks).zip (aA vs)).map (·.2)).toList=vs:=by
   rw[Array.toList_map,Array.toList_zip];exact List.map_snd_zip (dJ Y.symm)
  have e2:((bq vs.length).map λi=>vs.getD i bn)=vs:=by
   apply eB;intro i
   by_cases z:i<vs.length
   .simp[z]
   .simp[z]
  rw[List.toList_toArray,e2];exact(congrArg aA O)
 rw[if_neg U]at h;have U:2<=vs.length:=de.mp U;have T:¬vs.toArray.size<2:=by rw[aG];exact lin [vs.length] [] (.j V0 K2) [.b K2 V0] rfl U
 unfold ksk_end
 try dsimp only
 simp only[bM,if_false];rw[if_neg T,if_neg T];refine ac (aU h (λκ s0 hk=>?_) λZ Z x=>x.elim)
 refine ac (aU (kat_run (ks:=ks) (vs:=vs) (Q:=λy s'=>∃p:Array Nat,p.size=vs.length/\arrOf y=p.map (kas_item ((aA ks).zip (aA vs)))/\failedOf y=none/\SkFin kS D ks vs e O P p s')
  Y U u (λp' y s' a1 a2 a3 a4=>⟨p',a1,a2,a3,a4⟩) hk) ?_ λZ Z x=>x)
 intro hR1 s' hR2;obtain⟨⟨⟩,y⟩:=hR1;refine X1pppppp hR2 λp hp har hf f1 f2 f3=>?_
 try dsimp only
 exact JX f1 f2 B (kat_snds Y har) (by rwa [aj,gx,hp]) (lin [ks.length,vs.length] [] (.c V0 K64) [.d V0 V1,.c V1 K64] rfl Y u) hf f3
def SkKeys(prog:dN)(w:World)(A:c6)(kS:bg)(f:a8)(Fin:List a8->Nat->ag->Prop):List a8->List a8->Nat->ag->Prop
 |[],ks,e,s=>Fin ks e s
 |v::r,ks,e,s=>wpAny (model prog w) A (call f [v]) (λk s'=>s'.heap.get? kS=a0 (cw "list" (aA ks) e)/\∀h' c,dr kS s'.heap h'->h'.get? kS=a0 (cw "list" (aA (ks++[k])) c)->SkKeys prog w A kS f Fin r (ks++[k]) c { s' with heap:=h' }) (λZ Z=>False) s
theorem sk_fold{T:List a8->Nat->ag->Prop}{n:Nat}{body:a8->PUnit->Sem (ForInStep PUnit)}(O:n<64)
  (u:∀x ks e (s:ag) (C:a8->Nat->ag->Prop),bW ks<64->wpAny (model prog w) A (call f [x]) (λk s'=>s'.heap.get? kS=a0 (cw "list" (aA ks) e)/\∀h' c,dr kS s'.heap h'->h'.get? kS=a0 (cw "list" (aA (ks++[k])) c)->C k c { s' with heap:=h' }) (λZ Z=>False) s ->
   wpAny (model prog w) A (body x ⟨⟩) (λr s'=>r=.yield ⟨⟩/\∃k c,s'.heap.get? kS=a0 (cw "list" (aA (ks++[k])) c)/\C k c s') E s) (r:List a8):∀(ks:List a8)(e:Nat)(s:ag),ks.length+r.length=n ->
   s.heap.get? kS=a0 (cw "list" (aA ks) e)->SkKeys prog w A kS f T r ks e s ->
   wpAny (model prog w) A (forIn r PUnit.unit body) (λZ s'=>∃ks e,s'.heap.get? kS=a0 (cw "list" (aA ks) e)/\ks.length=n/\T ks e s') E s:=by
 induction r with
 |nil =>
  intro ks e s Y B h;rw[List.forIn_nil];exact ai ⟨ks,e,B,by simpa using Y,h⟩
 |cons x r y =>
  intro ks e s Y B h;rw[aL]at Y;rw[eh];refine ac (aU (u x ks e s (λk c s'=>SkKeys prog w A kS f T r (ks++[k]) c s') (lin [n,ks.length,r.length] [] (.c V1 K64) [.c V0 K64,.d (.A V1 (.A V2 K1)) V0] rfl O Y) h) (λq s' hq=>(X0lp q hq λZ0=>(X2pp Z0 λk c z U=>?_))) λZ Z x=>x);show wpAny (model prog w) A (forIn r PUnit.unit body) _ E s';exact y (ks++[k]) c s' (by rw[ar,cD];exact aq (lin [ks.length,r.length,n] [] (.b (.A (.A V0 K1) V1) V2) [.d (.A V0 (.A V1 K1)) V2] rfl Y) (lin [ks.length,r.length,n] [] (.b V2 (.A (.A V0 K1) V1)) [.D (-1) (.A V0 (.A V1 K1)) V2] rfl Y)) z U
theorem sk_rest(d:D≠kS)(O:s.heap.get? kS=a0 (cw "list" #[] 0))(u:vs.length<64)
  (h:SkKeys prog w A kS f (λks e s'=>HC prog w A kS D ks vs e e1 P s') vs [] 0 s) :
  wpAny (model prog w) A (ksk_rest D f a7 vs.toArray e1 (.ref kS)) P E s:=by
 unfold ksk_rest;refine ac (fW ?_)
 first
  |rw[List.forIn_toArray]
  |(rw[<- gN];simp only[List.toList_toArray])
  |rw[<- gN]
 refine ac (aU (sk_fold (kS:=kS) u (λx ks e s' C hz y=>?_) vs [] 0 s (by simp) O h) (λZ s' hd=>?_) λZ Z x=>x)
 .refine ac (eX (aU y (λk B O=>(An O λT c=>?_)) λZ Z hF=>hF.elim))
  have Y:=bU B.heap kS (bH (·.push k));have ea:(aA ks).push k=aA (ks++[k]):=by simp
  obtain⟨c2,hc2⟩:∃c2,(B.heap.update kS (bH (·.push k))).get? kS=a0 (cw "list" (aA (ks++[k])) c2):=⟨_,by rw[<- ea];exact gt T (·.push k)⟩
  try dsimp only
  refine ac (ik T rfl ?_ (by rw[aG,d0];exact lin [ks.length] [] (.b V0 A7) [.c V0 K64] rfl hz) (am (dJ (Array.size_push ..)) (by rw[aG,d0];exact lin [ks.length] [] (.b (.A V0 K1) (.A A7 K1)) [.c V0 K64] rfl hz)))
  exact ai ⟨rfl,k,c2,hc2,c _ c2 Y.extBut hc2⟩
 .refine X2ppp hd λks e z U fin=>?_
  try dsimp only
  exact ac (listItems_at z rfl (sk_end d U u fin))
theorem sk_keyed(T:s.heap.get? D=a0 (cw "list" vs.toArray n))(u:vs.length<64)
  (h:∀kS e1 h',D≠kS->s.heap.get? kS=none->dr D s.heap h'->h'.get? D=a0 (cw "list" #[] e1)->h'.get? kS=a0 (cw "list" #[] 0) ->
   SkKeys prog w A kS f (λks e s'=>HC prog w A kS D ks vs e e1 P s') vs [] 0 { s with heap:=h' }) :
  wpAny (model prog w) A (ksk_tree D f a7) P E s:=by
 have ha:D<s.heap.objs.size:=ba T;have Y:=bU s.heap D (bH λZ=>(#[]:Array a8));obtain⟨e1,ho1⟩:∃e1,(s.heap.update D (bH λZ=>(#[]:Array a8))).get? D=a0 (cw "list" #[] e1):=⟨_,gt T λZ=>#[]⟩;have U:((s.heap.update D (bH λZ=>(#[]:Array a8))).push (cw "tuple" vs.toArray 0)).objs.size=s.heap.objs.size+1:=by rw[size_push',Heap.size_update]
 have O:D≠((s.heap.update D (bH λZ=>(#[]:Array a8))).push (cw "tuple" vs.toArray 0)).objs.size:=by rw[U];exact bQ (cO ha)
 unfold ksk_tree;refine ac (listItems_at T rfl (ac (ik T rfl ?_ (by rw[aG,d0];exact lin [vs.length] [] (.b V0 A7) [.c V0 K64] rfl u) (cR _))))
 refine ac (seqEpoch_at ho1 rfl (ac (wpAny_newTuple ?_ (by show vs.length<=_;rw[d0];exact lin [vs.length] [] (.b V0 A7) [.c V0 K64] rfl u))))
 refine ac (wpAny_newList (bh ?_) (cR _));refine sk_rest (s:={ s with heap:=((s.heap.update D (bH λZ=>(#[]:Array a8))).push (cw "tuple" vs.toArray 0)).push (cw "list" #[] 0) }) (kS:=((s.heap.update D (bH λZ=>(#[]:Array a8))).push (cw "tuple" vs.toArray 0)).objs.size)
  O (aE _ rfl) u (h _ e1 _ O (Heap.get?_none_of_le (by rw[U];exact hV _)) (λb o z e=>aw _ (aw _ (Y.extBut b o z e))) (aw _ (aw _ ho1)) (aE _ rfl))
end
end
section
open PySem PySem.W PySem.Calls PyProof.Rows
section
variable {prog:dN}{w:World}{A:c6}{E:a8->ag->Prop}{s:ag}{kS D:bg}{ks:List a8}
theorem SkFin.mono(h:SkFin kS D ks vs e e1 P p s)(k:∀s,P (.done (.ret .none)) s->P' (.done (.ret .none)) s):SkFin kS D ks vs e e1 P' p s :=
 ⟨h.1,h.2.1,λh' c a b d=>k _ (h.2.2 h' c a b d)⟩
theorem SkKeys.mono{T O:List a8->Nat->ag->Prop}(r:List a8):∀{ks:List a8}{e:Nat}{s:ag},SkKeys prog w A kS f T r ks e s ->
  (∀d y s',d.length=ks.length+r.length->T d y s'->O d y s')->SkKeys prog w A kS f O r ks e s:=by
 induction r with
 |nil=>intro ks e s h U;exact U ks e s rfl h
 |cons v r Y =>
  intro ks e s h U;refine aU h (λk s' z=>⟨z.1,λh' c a b=>Y (z.2 h' c a b) λd y B u=>U d y B ?_⟩) λZ Z x=>x;rw[u,ar,cD,aL];exact aq (lin [ks.length,r.length] [] (.b (.A (.A V0 K1) V1) (.A V0 (.A V1 K1))) [] rfl) (lin [ks.length,r.length] [] (.b (.A V0 (.A V1 K1)) (.A (.A V0 K1) V1)) [] rfl)
theorem JY(hl:s.heap.IsList l vs.toArray)(u:vs.length<64)(ht:∀x,dE.«list.sort» ⟨[.ref x],[(ct "key",f)]⟩=ksk_tree x f a7)
  (h:∀D kS B h',D≠kS->s.heap.get? D=none->s.heap.get? kS=none->(∀b o,s.heap.get? b=a0 o->h'.get? b=a0 o)->h'.get? D=a0 (cw "list" #[] B)->h'.get? kS=a0 (cw "list" #[] 0) ->
   SkKeys prog w A.in1.in1 kS f (λks e s'=>HC prog w A.in1.in1 kS D ks vs e B (λZ s4=>Q (.ref D) s4) s') vs [] 0 { s with heap:=h' }) :
  wpAny (model prog w) A (call (.builtin "sorted") [.ref l] [(ct "key",f)]) Q E s:=by
 refine call_function_entry_kw kind_sorted plain_sorted entry_sorted (ksk_s1 _ _) ?_;unfold dE.«sorted»;refine ac (m:=checkCount "sorted" 1 1 _) (ai (ac (collect_list hl ?_ (by rw[d0];exact lin [vs.length] [] (.b V0 A7) [.c V0 K64] rfl u))))
 refine ac (wpAny_newList ?_ (by rw[d0];exact lin [vs.length] [] (.b V0 A7) [.c V0 K64] rfl u))
 have Y:((s.heap.push (cw "list" #[] 0)).update s.heap.objs.size (bH (·++vs.toArray))).objs.size=s.heap.objs.size+1:=by
  rw[Heap.size_update,size_push']
 have z:(((s.heap.push (cw "list" #[] 0)).update s.heap.objs.size (bH (·++vs.toArray))).push (cw "list" vs.toArray 0)).get? (s.heap.objs.size+1)=a0 (cw "list" vs.toArray 0):=by
  rw[<- Y];exact aE _ rfl
 have y:∀b o,s.heap.get? b=a0 o->(((s.heap.push (cw "list" #[] 0)).update s.heap.objs.size (bH (·++vs.toArray))).push (cw "list" vs.toArray 0)).get? b=a0 o:=λb o q=>by
  have U:b<s.heap.objs.size:=ba q;rw[Heap.get?_push_ne _ _ _ (by rw[Y];exact bQ (cO U)),Heap.get?_update_ne _ _ _ _ (bQ U),Heap.get?_push_ne _ _ _ (bQ U)]
  exact q
 show wpAny _ _ _ _ _ { s with heap:=((s.heap.push (cw "list" #[] 0)).update s.heap.objs.size (bH (·++vs.toArray))).push (cw "list" vs.toArray 0) }
 rw[Y];refine ac (bh (wpAny_call_entry_kw slot_list_sort ⟨_,z,rfl⟩ entry_list_sort ?body (ksk_l1 _ _)))
 case body =>
  show wpAny (model prog w) A.in1.in1 (dE.«list.sort» ⟨[.ref (s.heap.objs.size+1)],[(ct "key",f)]⟩) _ _ _;rw[ht];refine sk_keyed (s:={ s with heap:=((s.heap.push (cw "list" #[] 0)).update s.heap.objs.size (bH (·++vs.toArray))).push (cw "list" vs.toArray 0) }) z u λkS B h' a1 a2 a3 a4 a5=>?_
  have nD:s.heap.get? (s.heap.objs.size+1)=none:=Heap.get?_none_of_le (hV _);have nK:s.heap.get? kS=none:=by
   cases q:s.heap.get? kS with|none=>rfl|some o=>rw[y _ _ q]at a2;exact nS' a2
  refine SkKeys.mono vs (h _ kS B h' a1 nD nK (λb o q=>a3 b o (λe=>by rw[e,nD]at q;exact nS q) (y b o q)) a4 a5) λks e s' T d=>?_
  have O:ks.length=vs.length:=by simpa using T
  unfold HC at d ⊢
  by_cases hz:vs.length<2
  .rw[if_pos hz]at d ⊢
   exact d.mono λs4 hq=>⟨_,rfl,ai ⟨_,rfl,hq⟩⟩
  rw[if_neg hz]at d ⊢;refine aU d (λκ s'' hk=>?_) λZ Z x=>x;rw[kat_ask_eq (vs:=vs) O]at hk ⊢;exact kas_wp_mono hk λp s3 hk'=>hk'.mono λs4 hq=>⟨_,rfl,ai ⟨_,rfl,hq⟩⟩
end
end
section
open PySem PySem.W PySem.Calls PyProof.Rows
section
variable {prog:dN}{w:World}{A:c6}{E:a8->ag->Prop}{s:ag}
theorem Jc(h:Q (decide (a<b)) s):wpAny (model prog w) A (oneLt' a7 (.int a t) (.int b u)) Q E s:=by
 rw[oneLt'_eq];simp only[bM,if_false];exact ac (lt_int (cE h))
noncomputable def AM(p q:Int×Int):Bool:=if p.1=q.1 then decide (p.2<q.2) else decide (p.1<q.1)
theorem pair_lt(Y:s.heap.get? x=a0 { cls:=.type "tuple",data:=.seq #[.int p.1 t,.int p.2 u] n })(O:s.heap.get? y=a0 { cls:=.type "tuple",data:=.seq #[.int q.1 t',.int q.2 u'] k })
  (h:Q (AM p q) s):wpAny (model prog w) A (keyLt' (tuples' a6) (.ref x) (.ref y)) Q E s:=by
 refine kat_lt Y rfl O rfl (kat_cons (eT ?_));unfold AM at h
 by_cases e:p.1=q.1
 .rw[if_pos e]at h
  rw[show (p.1 == q.1)=a6 from beq_iff_eq.mpr e]
  refine kat_yes (kat_cons (eT ?_))
  by_cases T:p.2=q.2
  .rw[show (p.2 == q.2)=a6 from beq_iff_eq.mpr T]
   refine kat_yes (kat_nil ?_);rw[T]at h
   have:decide (q.2<q.2)=a7:=decide_eq_false (Int.lt_irrefl _)
   rw[this]at h;exact h
  .rw[show (p.2 == q.2)=a7 from beq_eq_false_iff_ne.mpr T]
   exact kat_no (Jc h)
 .rw[if_neg e]at h
  rw[show (p.1 == q.1)=a7 from beq_eq_false_iff_ne.mpr e]
  exact kat_no (oneLt_int h)
theorem pairLt_iff:AM p q=a6↔(p.1<q.1\/(p.1=q.1/\p.2<q.2)):=by
 unfold AM
 by_cases e:p.1=q.1
 .rw[if_pos e,decide_eq_true_eq];exact⟨λh=>.inr ⟨e,h⟩,λh=>h.elim (λh=>(Int.ne_of_lt h e).elim) (·.2)⟩
 .rw[if_neg e,decide_eq_true_eq];exact⟨.inl,λh=>h.elim id λh=>(e h.1).elim⟩
theorem Cb(h:AM p q=a7):q.1<=p.1/\(p.1=q.1->q.2<=p.2) :=
 have z:=λy=>b8.mp h (pairLt_iff.mpr y)
 ⟨gB.mp λy=>z (.inl y),λe=>gB.mp λy=>z (.inr ⟨e,y⟩)⟩
theorem Jb(k:Nat->Int×Int):Ord λi j=>AM (k i) (k j) where
 trans:=λa b c u U=>by
  refine An (Cb u) λy a2=>An (Cb U) λz b2=>b8.mpr λO=>?_
  rcases pairLt_iff.mp O with B|⟨B,T⟩
  .exact lin [] [(k a).fst,(k b).fst,(k c).fst] .no [.f V0 V1,.f V1 V2,.g V2 V0] rfl y z B
  .have a3:=a2 (af (lin [] [(k b).fst,(k c).fst,(k a).fst] (.f V0 V2) [.f V0 V1,.h V1 V2] rfl z B) (lin [] [(k a).fst,(k b).fst] (.f V0 V1) [.f V0 V1] rfl y))
   have d:=b2 (af (lin [] [(k a).fst,(k b).fst,(k c).fst] (.f V2 V1) [.f V0 V1,.h V2 V0] rfl y B) (lin [] [(k b).fst,(k c).fst] (.f V0 V1) [.f V0 V1] rfl z));exact lin [] [(k c).snd,(k a).snd,(k b).snd] .no [.g V0 V1,.f V1 V2,.f V2 V0] rfl T a3 d
 up:=λa b c u U=>by
  refine An (Cb U) λy a2=>Bool.not_eq_false _▸λO=>An (Cb O) λz b2=>?_
  rcases pairLt_iff.mp u with B|⟨B,T⟩
  .exact lin [] [(k a).fst,(k b).fst,(k c).fst] .no [.f V0 V1,.f V1 V2,.g V2 V0] rfl y z B
  .have a3:=a2 (af (lin [] [(k b).fst,(k c).fst,(k a).fst] (.f V0 V2) [.f V0 V1,.h V1 V2] rfl z B) (lin [] [(k a).fst,(k b).fst] (.f V0 V1) [.f V0 V1] rfl y))
   have d:=b2 (af (lin [] [(k a).fst,(k b).fst,(k c).fst] (.f V2 V1) [.f V0 V1,.h V2 V0] rfl y B) (lin [] [(k b).fst,(k c).fst] (.f V0 V1) [.f V0 V1] rfl z));exact lin [] [(k c).snd,(k a).snd,(k b).snd] .no [.g V0 V1,.f V1 V2,.f V2 V0] rfl T a3 d
 irr:=λa=>by unfold AM;rw[if_pos rfl];exact decide_eq_false (Int.lt_irrefl _)
 asym:=λa b u U=>by
  rcases pairLt_iff.mp u with B|⟨B,T⟩
  .rcases pairLt_iff.mp U with Y|⟨Y,d2⟩
   .exact lin [] [(k a).fst,(k b).fst] .no [.g V0 V1,.g V1 V0] rfl B Y
   .exact lin [] [(k a).fst,(k b).fst] .no [.g V0 V1,.h V1 V0] rfl B Y
  .rcases pairLt_iff.mp U with Y|⟨Y,d2⟩
   .exact lin [] [(k a).fst,(k b).fst] .no [.h V0 V1,.g V1 V0] rfl B Y
   .exact lin [] [(k a).snd,(k b).snd] .no [.g V0 V1,.g V1 V0] rfl T d2
end
end
section
open PySem PySem.W PySem.Calls PyProof.Rows
section
variable {prog:dN}{w:World}{A:c6}{E:a8->ag->Prop}{s:ag}
def IsPr(h:Heap)(v:a8)(p:Int×Int):Prop:=∃a t u n,v=.ref a/\h.get? a=a0 { cls:=.type "tuple",data:=.seq #[.int p.1 t,.int p.2 u] n }
theorem I7(ks:List a8)(y:∀v∈ks,∃p,IsPr h v p):∃fs,KatTups h ks fs/\fs.length=ks.length/\∀v∈fs,∃i t,v=.int i t:=by
 induction ks with
 |nil=>exact⟨[],.nil,rfl,λv B=>absurd B bp⟩
 |cons v ks Y =>
  exact X5lp v (y _ (.head _)) λp a t u n e=>X1ppp (Y λv B=>y v (.tail _ B)) λfs O z d=>⟨.int p.1 t::fs,KatTups.cons e rfl rfl rfl O,congrArg fF z,λv B=>(az.mp B).elim (λq=>⟨_,_,q⟩) (d v)⟩
theorem I8{ks:List a8}{Q:SortKind->ag->Prop}(y:∀v∈ks,∃p,IsPr s.heap v p)(d:0<ks.length)(h:Q (tuples' a6) s):wpAny (model prog w) A (keyKind' ks.toArray) Q E s:=by
 exact X1ppp (I7 ks y) λfs u z Y=>kat_kind (T:=.type "int") u (lin [ks.length,fs.length] [] (.c K0 V1) [.c K0 V0,.D (-1) V1 V0] rfl d z) (λv B=>(X2l v (Y v B) λi t=>.now)) rfl h
end
end
section
open PySem PySem.W PySem.Calls PyProof.Rows
def AR{α:Type}(n:Nat)(R:α->Prop):KasT α->Prop
 |.ret a=>R a
 |.ask i j k=>i<n/\j<n/\∀b,AR n R (k b)
theorem AR.bind(t:KasT α)(h:AR n R t)(O:∀a,R a->AR n R' (f a)):AR n R' (t.bind f):=by
 induction t with|ret a=>exact O a h|ask i j k y=>exact⟨h.1,h.2.1,λb=>y b (h.2.2 b)⟩
def AllLt(n:Nat)(p:Array Nat):Prop:=∀k,p.getD k 0<n
theorem AllLt.perm(O:0<n)(h:AllLt n p)(e:q.Perm p):AllLt n q:=λk=>by
 rw[bf]
 cases g:q[k]? with
 |none=>exact O
 |some x =>
  have u:x∈q:=Array.mem_of_getElem? g;have d:x∈p:=e.mem_iff.mp u;obtain⟨i,hi,rfl⟩:=Array.mem_iff_getElem.mp d
  have:=h i
  rw[bf,Array.getElem?_eq_getElem hi]at this;exact this
theorem ar_asc(h:AllLt n p)(f:Nat):∀m,AR n (λZ=>True) (dz p f m):=by
 induction f with
 |zero=>intro m;exact trivial
 |succ f y =>
  refine λm=>⟨h _,h _,λb=>?_⟩
  cases b
  .exact y (m+1)
  .exact trivial
theorem ar_desc(O:0<n)(f:Nat):∀(p:Array Nat)(m q:Nat),AllLt n p->AR n (λr=>AllLt n r.1) (kas_desc f p m q):=by
 induction f with
 |zero=>intro p m q h;exact h
 |succ f y =>
  refine λp m q h=>⟨h _,h _,λb=>?_⟩
  cases b
  .refine⟨h _,h _,λb=>?_⟩
   cases b
   .exact y p (m+1) (q+1) h
   .exact h
  .show AR n _ (if q > 0 then _ else _)
   by_cases c:q > 0
   .rw[if_pos c];exact y _ _ _ (h.perm O (gg _ _ _ _))
   .rw[if_neg c];exact y _ _ _ h
theorem IG(O:0<n)(h:AllLt n p)(m r:Nat):AR n (λr=>AllLt n r.2) (kas_tail3 m r p) :=
 AR.bind _ (ar_asc (h.perm O (gg _ _ _ _)) _ _) λZ Z=>h.perm O (gg _ _ _ _)
theorem Er(O:0<n)(h:AllLt n p)(m r:Nat):AR n (λr=>AllLt n r.2) (kas_descPart m r p):=by
 refine AR.bind _ (ar_desc O _ _ _ _ h) λa ha=>?_
 by_cases c:a.2.2 > 0
 .rw[if_pos c];exact IG O (ha.perm O (gg _ _ _ _)) _ _
 .rw[if_neg c];exact IG O ha _ _
theorem ar_count(O:0<n)(h:AllLt n p)(r:Nat):AR n (λr=>AllLt n r.2) (f8 r p):=by
 refine AR.bind _ (ar_asc h _ _) λm Z=>?_
 by_cases c:(m == r)=a6
 .rwa [if_pos c]
 .rw[if_neg c]
  by_cases d:m > 1
  .rw[if_pos d]
   refine⟨h _,h _,λb=>?_⟩
   cases b
   .exact Er O (h.perm O (gg _ _ _ _)) _ _
   .exact h
  .rw[if_neg d];exact Er O h _ _
theorem ar_place(h:AllLt n p)(k f:Nat):∀l r,AR n (λZ=>True) (iy p k f l r):=by
 induction f with
 |zero=>intro l r;exact trivial
 |succ f y =>
  intro l r;show AR n _ (if l >= r then _ else _)
  by_cases c:l >= r
  .rw[if_pos c];exact trivial
  .rw[if_neg c]
   refine⟨h _,h _,λb=>?_⟩
   cases b
   .exact y _ _
   .exact y _ _
theorem ar_bin(O:0<n)(f:Nat):∀(p:Array Nat)(k:Nat),AllLt n p->AR n (λZ=>True) (kas_bin f p k):=by
 induction f with|zero=>intro p k _;exact trivial|succ f y=>intro p k h;exact AR.bind _ (ar_place h _ _ _ _) λl Z=>y _ _ (h.perm O (bubble_perm _ _ _))
theorem ar_sort(O:0<n):AR n (λZ=>True) (gh n):=by
 refine AR.bind _ (ar_count O (p:=aA (bq n)) (λk=>?_) _) λr y=>?_
 .rw[bf]
  cases g:(aA (bq n))[k]? with
  |none=>exact O
  |some x =>
   have:x∈bq n:=by simpa using Array.mem_of_getElem? g
   exact fL.mp this
 .by_cases c:r.1<n
  .rw[if_pos c];exact ar_bin O _ _ _ y
  .rw[if_neg c];exact trivial
end
section
open PySem PySem.W PySem.Calls PyProof.Rows
theorem kasWp_ar{I:ag->Prop}(h:∀i j C s,i<n->j<n->I s->(∀s',I s'->C (lt i j) s')->cmp i j C s){Q:α->ag->Prop}(t:KasT α)(ht:AR n R t) :
  ∀{s:ag},I s->(∀s',I s'->Q (ans lt t) s')->t.kasWp cmp Q s:=by
 induction t with|ret a=>intro s hs hq;exact hq s hs|ask i j k y=>intro s hs hq;exact h i j _ s ht.1 ht.2.1 hs λs' Y=>y (lt i j) (ht.2.2 _) Y hq
section
variable {prog:dN}{w:World}{A:c6}{s:ag}
theorem G5{kk:Nat->Int×Int}{n:Nat}{G:Array Nat->ag->Prop}(O:0<n)(B:∀i,i<n->IsPr s.heap (ks.getD i bn) (kk i))(h:G (ans (λi j=>AM (kk i) (kk j)) (gh n)) s) :
  (gh n).kasWp (kas_ask prog w A (tuples' a6) ks) G s:=by
 refine kasWp_ar (I:=λs'=>s'=s) (lt:=λi j=>AM (kk i) (kk j)) (λi j C s' hi z hs y=>?_) _ (ar_sort O) rfl λs' e=>e▸h;clear h;subst hs;unfold kas_ask;refine X4pp (B i hi) λa t u m d Y=>X4pp (B j z) λb t' u' m' U T=>?_;rw[d,U];exact pair_lt Y T (y _ rfl)
theorem Kk{kk:Nat->Int×Int}{n:Nat}(U:2<=n)(d:∀i j,i≠j->i<n->j<n->kk i≠kk j) :
  Srt (λi j=>AM (kk i) (kk j)) (ans (λi j=>AM (kk i) (kk j)) (gh n)) n/\(ans (λi j=>AM (kk i) (kk j)) (gh n)).Perm (aA (bq n)) :=
 sort_srt (Jb kk) U λi j u hi y=>by
  have:=d i j u hi y
  unfold AM
  by_cases e:(kk i).1=(kk j).1
  .rw[if_pos e,if_pos e.symm,decide_eq_true_eq,decide_eq_true_eq]
   have:(kk i).2≠(kk j).2:=λY=>this (bX e Y)
   exact cg λB=>(bz u).elim (λO=>(aW this).elim (λT=>lin [] [(kk i).snd,(kk j).snd] .no [.l V0 V1,.g V0 V1] rfl (λz=>B (.inl z)) T) (λT=>lin [] [(kk j).snd,(kk i).snd] .no [.l V0 V1,.g V0 V1] rfl (λz=>B (.inr z)) T)) (λO=>(aW this).elim (λT=>lin [] [(kk i).snd,(kk j).snd] .no [.l V0 V1,.g V0 V1] rfl (λz=>B (.inl z)) T) (λT=>lin [] [(kk j).snd,(kk i).snd] .no [.l V0 V1,.g V0 V1] rfl (λz=>B (.inr z)) T))
  .rw[if_neg e,if_neg (dO e),decide_eq_true_eq,decide_eq_true_eq]
   exact cg λB=>(bz u).elim (λO=>(aW e).elim (λT=>lin [] [(kk i).fst,(kk j).fst] .no [.l V0 V1,.g V0 V1] rfl (λz=>B (.inl z)) T) (λT=>lin [] [(kk j).fst,(kk i).fst] .no [.l V0 V1,.g V0 V1] rfl (λz=>B (.inr z)) T)) (λO=>(aW e).elim (λT=>lin [] [(kk i).fst,(kk j).fst] .no [.l V0 V1,.g V0 V1] rfl (λz=>B (.inl z)) T) (λT=>lin [] [(kk j).fst,(kk i).fst] .no [.l V0 V1,.g V0 V1] rfl (λz=>B (.inr z)) T))
end
end
section
variable {S:Sta}
section
variable {tb:List Nat}{env:Env}{N P Z:bg->Prop}{b:L0×ag}{m:L4}{V:L0}{s:ag}{h':Heap}
theorem St.apartZ(hs:Internal.St S tb env N P b m V s)(k:∀b o,s.heap.get? b=a0 o->h'.get? b=a0 o)(z:∀a,Z a->s.heap.get? a=aa/\∃o,h'.get? a=a0 o/\∀vs,o.data≠.fields vs) :
  Internal.St S tb env (λa=>N a\/Z a) P b m V { s with heap:=h',toks:=tk }/\L2 noO noO V s V { s with heap:=h',toks:=tk }:=by
 refine An (hs.grow k tk) λU st=>?_;have B:Ext (DN N V) s.heap h':=Ext.of_keeps k;have T:∀b,DN (λa=>N a\/Z a) V b->DN N V b\/s.heap.get? b=aa:=by
  rintro b (q|q|q)
  .exact .inl (.inl q)
  .exact .inl (.inr q)
  .exact .inr (z b q).1
 refine⟨⟨⟨U.inv.keep,U.inv.gens,U.inv.drawn,U.inv.os,U.inv.σg,?_,?_,λa o e=>(hs.inv.rep a o e).ext B T (k a)⟩,?_,U.frm,λa q=>.inl (hs.pN a q),hs.new,λa q=>.inl (hs.own a q),hs.gb⟩,st⟩
 .rintro a d (q|q)
  .exact hs.inv.σN a d q
  .exact hs.inv.not_dom (z a q).1 d
 .rintro a (q|q)
  .exact U.inv.Nin a q
  .exact(z a q).2
 .have O:=hs.loc
  obtain⟨_,_,_,_,O,_⟩:=O;exact hs.loc.map (λa o Y e=>k a o e) (λa q=>(O a q).1) λr=>r.ext B T
theorem St.turnZ(hs:Internal.St S tb env N P b m V s)(U:∀a,Z a->N a/\¬Own env a/\b.2.heap.get? a=aa)(T:∀c o,¬Z c->s.heap.get? c=a0 o->h'.get? c=a0 o)(y:∀a,Z a->∃o,h'.get? a=a0 o/\∀vs,o.data≠.fields vs) :
  Internal.St S tb env N P b m V { s with heap:=h' }/\L2 P Z V s V { s with heap:=h' }:=by
 have e0:Ext (DN N V) s.heap h':=Ext.of_but λc o d e=>T c o (λq=>d (.inr (U c q).1)) e;have hD:∀c,DN N V c->DN N V c\/s.heap.get? c=aa:=λc q=>.inl q;have rep:∀{av v},Rep S.cv s.heap (DN N V) av v->Rep S.cv h' (DN N V) av v:=λr=>r.ext e0 hD;have there:∀a o,s.heap.get? a=a0 o->∃u,h'.get? a=a0 u:=λa o e=>by
  by_cases q:Z a
  .refine X1pp (y a q) λu B Y=>?_;exact⟨u,B⟩
  .exact⟨o,T a o q e⟩
 obtain⟨mc,cm,n,cc,ow,ap,cl,rr⟩:=hs.loc;refine⟨⟨⟨λa o e=>T a o (λq=>?_) (hs.inv.keep a o e),hs.inv.gens,hs.inv.drawn,hs.inv.os,hs.inv.σg,hs.inv.σN,λa q=>?_,λa o e=>(hs.inv.rep a o e).ext e0 hD λob B=>T a ob (λz=>hs.inv.σN a (by unfold Dom;rw[e];simp) (U a z).1) B⟩,?_,?_,hs.pN,hs.new,hs.own,hs.gb⟩,
  L2.of_but (λa o Y n e=>T a o n e) (λY h=>.inl h) there⟩
 .rw[hs.gb a (U a q).2.2]at e;exact nS e
 .refine X1pp (hs.inv.Nin a q) λo e nf=>?_
  by_cases z:Z a
  .exact y a z
  .exact⟨o,T a o z e,nf⟩
 .refine⟨mc,cm,?_,λz a hz=>?_,ow,ap,cl,λz j av hj hm=>?_⟩
  .refine X3pp n λo es ep e d=>?_;exact⟨o,es,ep,T _ _ (λq=>(U _ q).2.1 (.inl rfl)) e,d⟩
  .refine X1pp (cc z a hz) λo e d=>?_;exact⟨o,T _ _ (λq=>(U _ q).2.1 (.inr ⟨z,hz⟩)) e,d⟩
  .exact LocAt.map (rr z j av hj hm) (λh2=>rep h2) (λY O=>O) (λY O=>O)
 .exact hs.frm.over λa e o=>T a o λq=>e.elim λo e=>Al (U a q).2.2 e
end
def KeyT(S:Sta)(k:Nat)(fv:a8)(key:AV->Ah)(l:List AV):Prop:=∀x∈l,∀(V:L0)(Q:AV->L0->Prop),Q (sp (key x)) V->Mi S k fv [x] V Q noX
section
variable {F:Fx S}{m:L4}{V:L0}{s:ag}{X:a8->ag->Prop}{Q:AV->L0->Prop}
theorem HH{key:AV->Ah}{kf:Nat}{Fin:List a8->Nat->ag->Prop}(hZ:∀a,Z a->F.N a/\¬F.O a/\F.b.2.heap.get? a=aa/\¬F.P a)(zk:Z kS)(zD:Z D)(hne:D≠kS)(hk:kf+2<=F.k){Ak:ag}{L:List AV} :
  ∀(r:List AV)(d:List AV)(rv ks:List a8)(e:Nat)(s:ag),KeyT S kf fv key r->L=d++r->F.St m V s->L2 F.P Z V Ak V s->RepL S.cv s.heap (F.D V) r rv->s.heap.get? D=a0 oD->s.heap.get? kS=a0 (AH ks.toArray e)->RepL S.cv s.heap (F.D V) (d.map λx=>sp (key x)) ks ->
  (∀ks' e' s',F.St m V s'->L2 F.P Z V Ak V s'->s'.heap.get? D=a0 oD->s'.heap.get? kS=a0 (AH (aA ks') e')->RepL S.cv s'.heap (F.D V) (L.map λx=>sp (key x)) ks'->Fin ks' e' s')->SkKeys S.prog S.w F.A.in1.in1 kS fv Fin rv ks e s
 |[],d,rv,ks,e,s,_,hL,hs,st,rr,gD,g,rk,fin=>by
  rw[show rv=[] from rr.inv]
  rw[aF]at hL;subst hL;exact fin ks e s hs st gD g rk
 |x::r,d,rv,ks,e,s,hkey,hL,hs,st,rr,gD,g,rk,fin=>by
  obtain⟨v,rv,rfl,rx,rr⟩:=rr.inv;have room:Room S F.N kf F.A.in1.in1:=Room.in1 (Room.in1 ⟨F.room.hh,F.room.fr,by have:=F.room.dp;exact lin [kf,F.k,F.A.depth] [] (.c (.A V2 (.M 2 (.A (.A V0 K1) K1))) Md) [.B 2 (.A V0 K2) V1,.c (.A V2 (.M 2 V1)) Md] rfl hk this,by have:=F.room.un;exact lin [kf,F.k,F.A.units] [] (.c (.A V2 (.M 20 (.A (.A V0 K1) K1))) BI) [.B 20 (.A V0 K2) V1,.c (.A V2 (.M 20 V1)) BI] rfl hk this⟩)
  refine wpAny_call (dH (hkey x (.head _) V (λa V'=>a=sp (key x)/\V=V') ⟨rfl,rfl⟩ F.N F.A.in1.in1 [v] s room hs.inv (.cons rx .nil)) λres s' z=>?_)
  cases res with
  |error err=>obtain⟨ea,c,V',Ac,h1,h2,h3,h4,h5⟩:=z;exact h5.elim
  |ok fl =>
   cases fl with
   |ret k =>
    obtain⟨av,V',st',i,ra,rfl,rfl⟩:=z;have hs':F.St m V s':=hs.to st' i λY h=>h;have T:∀a o,Z a->s.heap.get? a=a0 o->s'.heap.get? a=a0 o:=λa o z e=>st'.ext.obj _ _ e λq=>q.elim (λq=>hs.inv.σN _ q (hZ a z).1) λq=>q.elim (λq=>q.elim) (hZ a z).2.2.2;have u:L2 F.P Z V s V s':=st'.mono λY h=>h.elim;refine⟨T _ _ zk g,λh'' c eb gk=>?_⟩;obtain⟨hs2,st2⟩:=St.turnZ (Z:=(·=kS)) (h':=h'') hs' (λa q=>by clear g;subst q;exact⟨(hZ _ zk).1,(hZ _ zk).2.1,(hZ _ zk).2.2.1⟩) (λa o q e=>eb a o q e) (λa q=>by clear g;subst q;exact⟨_,gk,λvs z=>by exact nDf rfl z⟩)
    have U:L2 F.P Z V s' V { s' with heap:=h'' }:=st2.mono λa q=>by clear g st2;subst q;exact zk
    have zN:∀a,Z a->F.N a:=λa z=>(hZ a z).1;refine HH hZ zk zD hne hk r (d++[x]) rv (ks++[k]) c _ (λy hy=>hkey y (.tail _ hy)) (by rw[hL];simp) hs2 ((st.trans u).trans U) ?_ (eb D _ hne (T _ _ zD gD)) gk ?_ fin
    .exact((rr.step u zN hs.pN).step U zN hs.pN)
    .rw[a9]
     exact RepL.snoc ((rk.step u zN hs.pN).step U zN hs.pN) (ra.step U zN hs.pN)
   |_=>exact z.elim
theorem RepL.at:∀{L:List AV}{vs:List a8},RepL cv h D L vs->∀i,i<L.length->Rep cv h D (L.getD i .none) (vs.getD i bn)
 |[],_,_,i,hi=>absurd hi (ej _)
 |x::L,vs,r,i,hi=>by
  refine X2lpp vs r.inv λv z B d=>?_
  cases i with|zero=>exact B|succ i=>exact RepL.at d i (d8 hi)
theorem RepL.pick(r:RepL cv h D L vs):∀{p:List Nat},(∀i∈p,i<L.length)->RepL cv h D (p.map λi=>L.getD i .none) (p.map λi=>vs.getD i bn)
 |[],_=>.nil
 |i::p,h=>.cons (r.at i (h i (.head _))) (RepL.pick r λj z=>h j (.tail _ z))
theorem De(L:List α)(d:α):(bq L.length).map (λi=>L.getD i d)=L:=by
 apply eB;intro i
 by_cases z:i<L.length
 .simp[z]
 .simp[z]
theorem key_ne{L:List AV}{key:AV->Ah}(y:(L.map key).Nodup){i j:Nat}(h:i≠j)(hi:i<L.length)(z:j<L.length):key (L.getD i .none)≠key (L.getD j .none):=by
 intro e;have T:i<(L.map key).length:=by rwa [aj]
 have u:j<(L.map key).length:=by rwa [aj]
 have:(L.map key)[i]=(L.map key)[j]:=by
  rw[iw,iw];rw[aD,aD,ax hi,ax z]at e;exact e
 exact h ((List.getElem_inj y).mp this)
theorem Ja(h:p≠q)(n:AM q p=a7):AM p q=a6:=by
 obtain⟨a,b⟩:=p;obtain⟨c,d⟩:=q;unfold AM at *;dsimp only at *
 by_cases e:a=c
 .subst e
  rw[if_pos rfl]at n ⊢;rw[decide_eq_false_iff_not]at n;rw[decide_eq_true_eq]
  have:b≠d:=λz=>h (by rw[z])
  exact(aW this).elim (λB=>lin [] [b,d] (.g V0 V1) [.g V0 V1] rfl B) (λB=>lin [] [d,b] (.G 0 V1 V0) [.l V0 V1,.g V0 V1] rfl n B)
 .rw[if_neg e]
  rw[if_neg (dO e),decide_eq_false_iff_not]at n;rw[decide_eq_true_eq];exact(aW e).elim (λB=>lin [] [a,c] (.g V0 V1) [.g V0 V1] rfl B) (λB=>lin [] [c,a] (.G 0 V1 V0) [.l V0 V1,.g V0 V1] rfl n B)
structure Picks(L:List AV)(key:AV->Ah)(p:List Nat):Prop where
 lt:∀i∈p,i<L.length
 perm:(p.map λi=>L.getD i .none).Perm L
 up:(p.map λi=>L.getD i .none).Pairwise λx y=>AM (key x) (key y)=a6
theorem Kg{key:AV->Ah}(h:L.length<2):Picks L key (bq L.length):=by
 refine⟨λi hi=>fL.mp hi,?_,?_⟩
 .rw[De]
 .rw[De]
  match L,h with
  |[],_=>exact .nil
  |[x],_=>exact List.pairwise_singleton _ _
theorem I6{key:AV->Ah}(U:(L.map key).Nodup){p:Array Nat}(hs:Srt (λi j=>AM (key (L.getD i .none)) (key (L.getD j .none))) p L.length)(u:p.Perm (aA (bq L.length))):Picks L key p.toList:=by
 have u:p.toList.Perm (bq L.length):=by simpa using Array.perm_iff_toList_perm.mp u
 have lt:∀i∈p.toList,i<L.length:=λi hi=>fL.mp (u.mem_iff.mp hi);refine⟨lt,?_,?_⟩
 .have:=u.map λi=>L.getD i .none
  rwa [De]at this
 .rw[b6,List.pairwise_iff_getElem]
  intro i j hi z y;have O:p.toList.Nodup:=u.nodup_iff.mpr List.nodup_range;have Y:p.toList.length=L.length:=by rw[u.length_eq,ib]
  have ne:p.toList[i]≠p.toList[j]:=λe=>bQ y ((List.getElem_inj O).mp e);have g:∀k (B:k<p.toList.length),p.getD k 0=p.toList[k]:=λk B=>by
   have:k<p.size:=by simpa using B
   simp[Array.getD,this]
  have:=hs i j y (lin [j,p.toList.length,L.length] [] (.c V0 V2) [.c V0 V1,.d V1 V2] rfl z Y)
  rw[g i hi,g j z]at this;exact Ja (key_ne U ne (lt _ (fZ hi)) (lt _ (fZ z))) this
noncomputable def Fx.more(F:Fx S)(Z:bg->Prop):Fx S:=⟨F.A,F.tb,F.env,F.b,λa=>F.N a\/Z a,F.k,F.room.wide (λY q=>.inl q),F.fk,F.fg,F.fb,F.fc⟩
theorem KQ{L:List AV}{key:AV->Ah}{ks:List a8}(r:RepL cv h D (L.map λx=>sp (key x)) ks)(i:Nat)(hi:i<L.length):IsPr h (ks.getD i bn) (key (L.getD i .none)):=by
 have T:i<(L.map λx=>sp (key x)).length:=by rwa [aj]
 have:=r.at i T
 have e:(L.map λx=>sp (key x)).getD i .none=sp (key (L.getD i .none)):=by
  rw[aD,aD,aM,ax hi];rfl
 rw[e]at this;exact X4ppp (Rep.spot this) λt B O n d u Z=>⟨t,B,O,n,d,u⟩
theorem G1{key:AV->Ah}{kf:Nat}(hk:kf+2<=F.k)(hkey:KeyT S kf fv key L)(h64:L.length<64)(nd:(L.map key).Nodup)
  (ht:∀x,dE.«list.sort» ⟨[.ref x],[(ct "key",fv)]⟩=ksk_tree x fv a7) (hs:F.St m V s) (e:s.heap.get? l=a0 (AH vs.toArray n)) (r:RepL S.cv s.heap (F.D V) L vs)
  (hQ:∀L',L'.Perm L->L'.Pairwise (λx y=>AM (key x) (key y)=a6)->Fresh V (.list L') (.list L') Q):VT F m V s (call (.builtin "sorted") [.ref l] [(ct "key",fv)]) Q X:=by
 have U:vs.length=L.length:=r.length;refine JY ⟨_,e,rfl,n,rfl⟩ (by rwa [U]) ht λD kS e1 h' hne nD nK k gD gK=>?_
 have T:∀a,a=D\/a=kS->s.heap.get? a=aa:=λa q=>q.elim (λq=>q▸nD) (λq=>q▸nK);have gZ:∀a,a=D\/a=kS->∃o,h'.get? a=a0 o/\∀vs,o.data≠.fields vs:=λa q=>q.elim (λq=>⟨_,q▸gD,λY z=>by exact nDf rfl z⟩) (λq=>⟨_,q▸gK,λY z=>by exact nDf rfl z⟩)
 refine An (hs.apartZ (Z:=λa=>a=D\/a=kS) (tk:=s.toks) k λa q=>⟨T a q,gZ a q⟩) λhs1 st1=>?_;have nN:∀a,a=D\/a=kS->¬F.N a:=λa q z=>by refine X1pp (hs.inv.Nin a z) λo eo Y=>?_;exact Al (T a q) eo
 have Y:∀a,a=D\/a=kS->(F.N a\/a=D\/a=kS)/\¬F.O a/\F.b.2.heap.get? a=aa/\¬F.P a:=λa q=>⟨.inr q,λz=>nN a q (hs.own a z),hs.frm.new (T a q),λz=>nN a q (hs.pN a z)⟩;have zN:∀a,(a=D\/a=kS)->F.N a\/a=D\/a=kS:=λa q=>.inr q;have r1:RepL S.cv h' (DN (λa=>F.N a\/a=D\/a=kS) V) L vs:=r.ext (Ext.of_keeps k) λb q=>q.elim (λq=>.inl (.inl q)) λq=>q.elim (λq=>.inl (.inr q)) λq=>.inr (T b q);refine HH (F:=F.more λa=>a=D\/a=kS) (Ak:={ s with heap:=h' }) (m:=m) (V:=V) (D:=D) (oD:=AH #[] e1) Y (.inr rfl) (.inl rfl) hne hk L [] vs [] 0 _ hkey rfl hs1 (L2.refl _ _ _ _) r1 gD gK .nil ?_
 intro ks' e' s' hs' st' gD' gk' rk;have hl:ks'.length=L.length:=by have:=rk.length;rw[aj]at this;exact this
 have r2:=r1.step st' zN hs'.pN;have fin:∀p:Array Nat,Picks L key p.toList->SkFin kS D ks' vs e' e1 (λY s4=>PW F m V s (PV F Q) (.ref D) s4) p s':=λp hp=>by
  refine⟨gk',gD',λu c hb hkc hD'=>?_⟩;obtain⟨hs3,st3⟩:=St.turnZ (Z:=λa=>a=D\/a=kS) (h':=u) hs' (λa q=>⟨.inr q,(Y a q).2.1,(Y a q).2.2.1⟩) (λb o q e=>hb b o (λz=>q (.inr z)) (λz=>q (.inl z)) e) (λa q=>q.elim (λq=>⟨_,q▸hD',λY z=>by exact nDf rfl z⟩) λq=>by refine X1p hkc λc' ec=>?_;exact⟨_,q▸ec,λY z=>by exact nDf rfl z⟩)
  have r3:=(r2.step st3 zN hs'.pN).pick hp.lt;have st:L2 F.P noO V s V { s' with heap:=u }:=L2.out (st1.wide λY h=>h.elim) (st'.trans st3) T
  rcases hQ _ hp.perm hp.up with q|⟨i,q⟩
  .have h1:F.St m V { s' with heap:=u }:=hs3.open_ (λY q=>.inl q) hs.own hs.pN
   exact⟨V,st.mono λY h=>h.elim,h1,_,.list hD' (hs.inv.not_D nD) (r3.less λa q=>q.imp id .inl),q⟩
  .have h1:Internal.St S F.tb F.env (λa=>F.N a\/a=D) F.P F.b m V { s' with heap:=u }:=hs3.open_ (λY q=>q.imp id .inl) (λa q=>.inl (hs.own a q)) (λa q=>.inl (hs.pN a q))
   have B:F.St m (V.set D (.list (p.toList.map λi=>L.getD i .none))) { s' with heap:=u }:=h1.take hs.own hs.pN (nN D (.inl rfl)) (hs.frm.new nD) (.list hD' (r3.less λa q=>q.imp id λq=>q.imp id .inl))
   have st4:L2 F.P noO V s (V.set D (.list (p.toList.map λi=>L.getD i .none))) { s' with heap:=u }:=⟨st.ext,st.frm,λa d=>(A6 d).elim (λz=>.inr (by rwa [z])) (st.dom a),st.there⟩
   exact⟨_,st4.mono λY h=>h.elim,B,_,.loc D i,q D (hs.inv.not_dom nD)⟩
 unfold HC
 by_cases B:vs.length<2
 .rw[if_pos B]
  exact fin _ (by rw[U]at B ⊢;exact Kg B)
 .rw[if_neg B]
  refine I8 (λv hv=>?_) (lin [vs.length,L.length,ks'.length] [] (.c K0 V2) [.d V0 V1,.D (-1) V2 V1,.j V0 K2] rfl U hl B) ?_
  .obtain⟨i,hi,rfl⟩:=List.getElem_of_mem hv
   have:=KQ (L:=L) rk i (Nat.lt_of_lt_of_eq hi hl)
   rw[aD,ax hi]at this;exact⟨_,this⟩
  .refine An (Kk (kk:=λi=>key (L.getD i .none)) (n:=L.length) (lin [vs.length,L.length] [] (.b K2 V1) [.d V0 V1,.j V0 K2] rfl U B) λi j hij hi hj=>key_ne nd hij hi hj) λp1 p2=>?_
   rw[U];refine G5 (lin [vs.length,L.length] [] (.c K0 V1) [.d V0 V1,.j V0 K2] rfl U B) (λi hi=>KQ rk i hi) (fin _ (I6 nd p1 p2))
theorem ET.sorted{key:AV->Ah}(hg:Glob S i (.ref fa))(hb:Glob S 10 (.builtin "sorted"))(hk:kf+2<=F.k)
  (h:ET F m V x (λa Aa=>∃L,dl Aa a=a0 L/\KeyT S kf (.ref fa) key L/\L.length<64/\(L.map key).Nodup/\∀L',L'.Perm L->L'.Pairwise (λx y=>AM (key x) (key y)=a6)->Fresh Aa (.list L') (.list L') Q) X):ET F m V (.sorted x (.g i)) Q X:=by
 intro pe hc s hs;obtain⟨a,f,kp,p,q,x,key',rfl,rfl,rfl,T,U,ha,hf⟩:=hc.inv;refine X2lp f (CE.inv hf) λf' u hx=>?_;have B:IsG F.sc "sorted" 10:=⟨by decide +kernel,T,by decide +kernel⟩
 show wpAny _ _ (do callWith p (<- eval (.Name "sorted" q) F.env) [] (backTo p (fE [a] F.env)) (backToKw p (keywordEach [⟨a0 "key",.Name f' u,kp⟩] F.env))) _ _ _
 refine ac (Dp B hb hs (callWith_of (P:=λh=>∀b o,S.g.get? b=a0 o->h.get? b=a0 o) ?_ (Mk.builtin (S:=S) _) ?_))
 .rw[AW U];rfl
 refine evalArgs_kw2 rfl (wpAny_items_cons (W.out (h _ ha s hs) ?_) (AW U)) (AW U);intro v V' s' st O z;obtain⟨av,ra,L,hd,Y,d,nd,hQ⟩:=z;exact args_nil (kwAll_cons (Dp hx hg O (kwAll_nil (X3lpp v (ra.lst O.inv hd) λl vs n e rl=>⟨O.inv.keep,(G1 hk Y d nd (λx=>ksk_t1 fa x) O e rl hQ).later st⟩))))
end
end
section
open PySem PySem.W PySem.Calls PyProof.Rows
section
variable {prog:dN}{w:World}{A:c6}{E:a8->ag->Prop}{s:ag}
theorem tup_lt(B:s.heap.get? x=a0 (BD #[.int p.1 t,.int p.2 u] n))(d:s.heap.get? y=a0 (BD #[.int q.1 t',.int q.2 u'] k))
  (h:P (.done (.ret (.bool (AM p q)))) s):wpAny (model prog w) A (dE.«tuple.__lt__» ⟨[.ref x,.ref y],[]⟩) P E s:=by
 show wpAny _ _ (isInstance (.ref y) (.type "tuple") >>= _) _ _ s;refine ac (dQ (T := "tuple") ⟨_,d,rfl⟩ isSubtype_tuple_tuple ?_);simp only[gd,bM,if_false];refine ac (wpAny_tupleItemsOf B rfl (ac (wpAny_tupleItemsOf d rfl (ac ?_))));show wpAny _ _ (forIn [(iz p.1 t,iz q.1 t'),(iz p.2 u,iz q.2 u')] _ _) _ _ s;rw[eh];refine ac (ac (eT ?_));unfold AM at h
 by_cases e:p.1=q.1
 .rw[if_pos e]at h
  rw[show (p.1 == q.1)=a6 from beq_iff_eq.mpr e]
  refine ai ?_;show wpAny _ _ (forIn [(iz p.2 u,iz q.2 u')] _ _) _ _ s;rw[eh];refine ac (ac (eT ?_))
  by_cases z:p.2=q.2
  .rw[show (p.2 == q.2)=a6 from beq_iff_eq.mpr z]
   refine ai (ai ?_);rw[z,decide_eq_false (Int.lt_irrefl _)]at h;exact ai h
  .rw[show (p.2 == q.2)=a7 from beq_eq_false_iff_ne.mpr z]
   exact ac (fW (ac (lt_int (ai (ai (ai h))))))
 .rw[if_neg e]at h
  rw[show (p.1 == q.1)=a7 from beq_eq_false_iff_ne.mpr e]
  exact ac (fW (ac (lt_int (ai (ai (ai h))))))
end
section
variable {S:Sta}{F:Fx S}{m:Nat->Option AV}{V:L0}{X:a8->ag->Prop}
theorem KT.ltSpot(h:Q (AM p q) V):KT F m V .Lt (sp p) (sp q) Q X:=by
 refine λY z s hs T O=>X4lpp Y (Rep.spot T) λx t u n e Z=>X4lpp z (Rep.spot O) λy t' B k d Z=>?_;have U:F.A.units<cLine:=by have:=F.room.un;unfold cLine;exact lin [F.A.units,F.k] [] (.c V0 EB) [.c (.A V0 (.M 20 V1)) BI] rfl this
 exact eE (op:=.Lt) ⟨_,e,rfl⟩ ⟨_,d,rfl⟩ PySem.F.slot_tuple_lt
  (cX PySem.F.slot_tuple_lt ⟨_,e,rfl⟩ PySem.F.entry_tuple_lt (tup_lt e d ⟨_,rfl,(λe=>nomatch e),V,L2.refl _ _ _ _,hs,_,rfl,h⟩) (PySem.F.args_tuple_lt_2 _ _)) U
end
end
section
variable {S:Sta}
section
variable {F:Fx S}{m:L4}{V:L0}{X:a8->ag->Prop}{Q:AV->L0->Prop}
theorem XsOf.getD(u:XsOf cv h D l xs)(r:Rep cv h D x v):Rep cv h D ((A2 l k).getD x) (((atKey xs (key k)).map (·.2)).getD v):=by
 have q:=u.at_ k
 revert q
 cases A2 l k with
 |none =>
  cases atKey xs (key k)with|none=>intro _;exact r|some p=>intro q;exact q.elim
 |some av =>
  cases atKey xs (key k)with|none=>intro q;exact q.elim|some p=>intro q;exact q
theorem CT.get(hb:dd V b=a0 l)(h:Q ((A2 l k).getD .none) V):CT F m V (.builtin "dict.get") [b,sp k] Q X:=by
 refine λvals s hs r=>X2lpp vals r.two λy Y z B=>X4lpp Y B.spot λt tx ty n e d=>X3lpppp y (z.dct hs.inv hb) λad es n' e' O nd U=>X1pp (RepD.xs (S:=S) U) λxs u Z0=>?_;clear U;subst Z0;have T:=Ec u nd e';exact call_meetsIn fU T.typeIs PySem.F.entry_dict_get (PySem.F.args_dict_get_2 _ _) (meetsH_dict_get _ ad t O) ⟨Br F,key k,xs,D2 e,T,V,L2.toks _ _ _ _ _,hs.tok _,_,u.getD .none,h⟩
theorem CT.get2(hb:dd V b=a0 l)(h:Q ((A2 l k).getD x) V):CT F m V (.builtin "dict.get") [b,sp k,x] Q X:=by
 refine λvals s hs r=>X2lpp vals r.inv λy r1 rb r=>X2lpp r1 r.two λY B ra O=>X4lpp Y ra.spot λt tx ty n e d=>X3lpppp y (rb.dct hs.inv hb) λad es n' e' z nd U=>X1pp (RepD.xs (S:=S) U) λxs u Z0=>?_;clear U;subst Z0;have T:=Ec u nd e';exact call_meetsIn fU T.typeIs PySem.F.entry_dict_get (PySem.F.args_dict_get_3 _ _ _) (meetsH_dict_get_default _ ad t z B) ⟨Br F,key k,xs,D2 e,T,V,L2.toks _ _ _ _ _,hs.tok _,_,u.getD O,h⟩
theorem meth_get:Meth "get" (Ty.name .dict) "dict.get":=⟨PySem.F.plainAttrs_dict,fU,PySem.F.type_dict_get⟩
end
end
section
variable {S:Sta}
section
variable {A:c6}{E:a8->ag->Prop}{s:ag}
structure TupE(h:Heap)(es:Array bT):Prop where
 key:∀e∈es.toList,∃t,e.key=.ref t/\∃o,h.get? t=a0 o/\o.cls=.type "tuple"
 one:∀e∈es.toList,(es.filter (·.hash == e.hash)).size<=1
theorem TupE.push(k:TupE h es)(o:Obj):TupE (h.push o) es :=
 ⟨λe y=>by refine X1pp (k.key e y) λt T O=>?_;refine X1pp O λu z Y=>?_;exact⟨t,T,u,aw _ z,Y⟩,k.one⟩
theorem Ho(U:DictE s.heap o es ep)(k:TupE s.heap es)(h:Q es s):wpAny (model S.prog S.w) A (gu nm o) Q E s:=by
 unfold gu;refine ac (bL U rfl (ac ?_));rw[<- gN];refine wpAny_forIn_list _ (λrest Z s'=>s'=s/\∀e∈rest,e∈es.toList) _ ?_ ?_ _ _ ⟨rfl,λZ h=>h⟩
 .refine λe rest b s' u=>X0lp s' u λy=>X1pp (k.key e (y e (.head _))) λt O Z0=>X1pp Z0 λd z Y=>ac ?_
  unfold Builtin.Dict.quietEq;rw[O];dsimp only;refine ac (wpAny_specialOf (T := "tuple") ⟨d,z,Y⟩ PySem.F.slot_tuple_eq.lookup (ai ?_));rw[if_pos (by decide +kernel),if_neg (de.mpr (k.one e (y e (.head _))))]
  exact ai ⟨rfl,λe B=>y e (.tail _ B)⟩
 .exact λb s' u=>X0lp s' u λZ=>ai h
theorem KH(O:d≠o)(T:(o == cG)=a7)(y:DictE s.heap d #[] 0)(U:DictE s.heap o es ep)(k:TupE s.heap es)(B:es≠#[])(hz:es.size<=sizeLine)
  (Y:∀h' n,DictE h' d es n->iE d s.heap h'->Q () { s with heap:=h' }):wpAny (model S.prog S.w) A (iH nm d o) Q E s:=by
 unfold iH;rw[if_neg (by simpa using O)]
 unfold ez;rw[if_neg (by rw[T];exact aQ)]
 refine ac (ai (ac (bL U rfl ?_)));have u:(decide (es.size<=8) && es.all λe=>(keyPart e.key).isSome)=a7:=by
  cases hx:es.toList with
  |nil=>exact absurd hx (λz=>B (by rw[<- Array.toArray_toList (xs:=es),z]))
  |cons e r =>
   refine X1pp (k.key e (by rw[hx];exact .head _)) λt h1 Z=>?_
   have:(es.all λe=>(keyPart e.key).isSome)=a7:=by
    rw[<- Array.all_toList,hx,List.all_cons,h1];rfl
   rw[this,Bool.and_false]
 rw[u];dsimp only;rw[if_pos (show (!a7)=a6 from rfl)]
 refine ac (bL y rfl ?_);rw[if_pos (show (#[]:Array bT).isEmpty=a6 from rfl)]
 refine ac (Ho U k ?_);rw[if_pos (by simp[B])]
 exact ac (wpAny_updateDictKeysTo y rfl (ai (Y _ 1 (bZ _ y rfl) (bU ..))) (hW hz))
theorem Ez(B:(o == cG)=a7)(ho:DictE s.heap o es ep)(k:TupE s.heap es)(he:es≠#[])(hz:es.size<=sizeLine)
  (h:∀h' n,DictE h' s.heap.objs.size es n->(∀b y,s.heap.get? b=a0 y->h'.get? b=a0 y)->Q (.ref s.heap.objs.size) { s with heap:=h' }):wpAny (model S.prog S.w) A (call (.type "dict") [.ref o]) Q E s:=by
 refine callType_codes (Q₁:=λd Ac=>d=.ref s.heap.objs.size/\Ac={ s with heap:=s.heap.push { cls:=.type "dict",data:=.dict #[] } }) PySem.F.kt_called_dict (gO _) PySem.F.entry_dict_init (kt_code_dict_new _ ⟨rfl,rfl⟩) ?_
 refine λd Ac u=>X0ll d Ac u ?_;have T:DictE (s.heap.push { cls:=.type "dict",data:=.dict #[] }) s.heap.objs.size #[] 0:=aE _ rfl;have U:DictE (s.heap.push { cls:=.type "dict",data:=.dict #[] }) o es ep:=aw _ ho;have O:s.heap.objs.size≠o:=λe=>absurd (ba ho) (by rw[e];exact Nat.lt_irrefl _)
 refine⟨T.typeIs,il _ _,?_⟩;unfold dE.«dict.__init__»;refine ac ?_;unfold im;refine ac (cV T.typeIs ?_);show wpAny _ _ (pure (s.heap.objs.size,[bK o])) _ _ _;refine ai ?_;show wpAny _ _ (dT "dict.__init__" s.heap.objs.size (.ref o) [] .none) _ _ _;unfold dT;refine ac (wpAny_typeOf U.typeIs ?_);rw[if_neg (by decide)]
 refine ac ?_;unfold Builtin.Dict.merge;refine ac ?_;unfold Builtin.Dict.readDirectly;refine ac (dQ U.typeIs gy ?_);simp only[gd,bM,if_false];refine ac (wpAny_specialOf U.typeIs fJ.lookup (ai ?_));simp only[beq_self_eq_true,if_true];refine ac (ai (KH O B T U (k.push _) he hz λh' n z Y=>?_));show wpAny _ _ (Builtin.Dict.addKeywords s.heap.objs.size [] >>= _) _ _ _;exact ac (ai (ai ⟨rfl,h h' n z λb y e=>(Y.2 b (bQ (ba e))).trans (aw _ e)⟩))
end
section
variable {F:Fx S}{m:L4}{V:L0}{X:a8->ag->Prop}{Q:AV->L0->Prop}
theorem upd_dict{ad:bg}{l l':List (Ah×AV)}{h':Heap}{es:List bT}{n:Nat}{s:ag}(hs:F.St m V s)(U:V ad=a0 (.dict l))(k:dr ad s.heap h')(e:h'.get? ad=a0 (AU es.toArray n))(u:(ad == cG)=a7)(z:(l'.map (·.1)).Nodup)(r:RepD S.cv s.heap (F.D V) l' es) :
  F.St m (V.set ad (.dict l')) { s with heap:=h' }/\L2 F.P F.O V s (V.set ad (.dict l')) { s with heap:=h' }:=by
 have y:Dom V ad:=by unfold Dom;rw[U];simp
 have T:Ext (F.D V) s.heap h':=Ext.of_but λb o d e=>k b o (λq=>d (.inl (q▸y))) e;obtain⟨Y,st⟩:=hs.upd (h':=h') y (λc o ne e=>k c o ne e) s.toks (o:=.dict l') (.dict e u z (r.ext T λb q=>.inl (q.imp (λq=>(A6 q).elim (λ(q:b=ad)=>by rwa [q]) id) id)))
 exact⟨Y,st.any⟩
theorem F6{cv:Nat->a8}{h:Heap}{D:bg->Prop}:∀{l:List (Ah×AV)}{es:List bT},RepD cv h D l es->(∀e∈es,∃t,e.key=.ref t/\∃o,h.get? t=a0 o/\o.cls=.type "tuple")/\es.map (·.hash)=l.map λp=>AX p.1
 |[],es,r=>by rw[show es=[] from r.inv];exact⟨λZ h=>(nM h),rfl⟩
 |p::l,es,r=>by
  refine X6lpppp es r.inv λt B T n v O e d a b=>An (F6 b) λY z=>⟨λx u=>?_,by rw[b5,b5,z]⟩
  rcases az.mp u with rfl|u
  .exact⟨t,rfl,_,e,rfl⟩
  .exact Y x u
theorem one_hash{es:List bT}(y:(es.map (·.hash)).Nodup)(e:bT):(es.toArray.filter (·.hash == e.hash)).size<=1:=by
 have:(es.toArray.filter (·.hash == e.hash)).size=((es.map (·.hash)).filter (· == e.hash)).length:=by
  rw[List.filter_map];simp[Function.comp_def]
 rw[this,<- List.countP_eq_length_filter];exact List.nodup_iff_count.mp y e.hash
theorem CT.dictCopy(ha:dd V a=a0 l)(hz:l.length<=big)(T:l≠[])(hh:(l.map λp=>AX p.1).Nodup)(h:Fresh V (.dict l) (.dict l) Q):CT F m V (.type "dict") [a] Q X:=by
 refine λvals s hs r=>X1lp vals r.one λv Y=>X3lpppp v (Y.dct hs.inv ha) λad es n e u y U=>An (F6 U) λk1 k2=>?_;have d:es.toArray≠#[]:=λz=>T (by
  have:=U.length
  rw[show es=[] by simpa using z]at this
  exact List.length_eq_zero_iff.mp this.symm)
 exact Ez u e ⟨λx O=>k1 x O,λx Z=>one_hash (by rwa [k2]) x⟩ d (by rw[aG,U.length];exact Bn hz) λh' n' e' B=>Df (tk:=s.toks) hs B (Ay _) e' y U h
end
end
section
section
variable {prog:dN}{w:World}{A:c6}{E:a8->ag->Prop}{s:ag}
inductive Twin:a8->a8->Prop
 |int (z:Int)(t t':Tok):Twin (.int z t) (.int z t')
 |str (x:Str)(t t':Tok):Twin (.str x t) (.str x t')
 |bool (b:Bool):Twin (.bool b) (.bool b)
 |none:Twin .none .none
theorem Twin.eqb(T:Twin a b)(h:Q a6 s):wpAny (model prog w) A (eqBool a b) Q E s:=by
 induction T using Twin.casesOn with
 |int z t d=>exact eT (by rwa [beq_self_eq_true])
 |str x t d=>exact wpAny_eqBool_str (by rwa [decide_eq_true rfl])
 |bool b =>
  unfold eqBool;refine bh ?_;have e:(Value.bool b == Value.bool b)=a6:=by cases b<;>rfl
  rw[if_pos e];exact ac (fW (ai h))
 |none =>
  unfold eqBool;refine bh ?_;have e:(bn == bn)=a6:=rfl;rw[if_pos e];exact ac (fW (ai h))
noncomputable def plV:AV->Bool
 |.int _=>a6
 |.str _=>a6
 |.bool _=>a6
 |.none=>a6
 |_=>a7
theorem Twin.of(p:plV a=a6)(r:Rep cv h D a u)(O:Rep cv h D a v):Twin u v:=by
 cases a with
 |int z=>refine X1l u r.inv λt=>?_;refine X1l v O.inv λd=>?_;exact .int ..
 |str z=>refine X1l u r.inv λt=>?_;refine X1l v O.inv λd=>?_;exact .str ..
 |bool b=>obtain rfl:=r.inv;obtain rfl:=O.inv;exact .bool b
 |none=>obtain rfl:=r.inv;obtain rfl:=O.inv;exact .none
 |_=>exact(aQ p).elim
theorem I2{xs O:List (List Int×bg×a8)}{y U:Array bT}{na nb:Nat}{Q:Bool->ag->Prop}(hu:(be (bJ prog w)).room A)(sa:(a == cG)=a7)(sb:(b == cG)=a7)
  (ha:DictE s.heap a y na) (hb:DictE s.heap b U nb) (ea:y.toList=xs.map (cH (be (bJ prog w)))) (eb:U.toList=O.map (cH (be (bJ prog w)))) (isx:∀x∈xs,(be (bJ prog w)).is s.heap x.1 x.2.1) (Y:∀x∈O,(be (bJ prog w)).is s.heap x.1 x.2.1) (B:(O.map (·.1)).Nodup)
  (len:xs.length=O.length) (same:∀(i:Nat) k p,xs[i]?=a0 (k,p)->∃q,O[i]?=a0 (k,q)/\Twin p.2 q.2) (h:Q a6 s):wpAny (model prog w) A (cK nm a b) Q E s:=by
 have la:=size_of_entries ea;have lb:=size_of_entries eb;unfold cK ez;rw[if_neg (by rw[sa];exact aQ),if_neg (by rw[sb];exact aQ)]
 refine ac (ai (ac (ai (ac (bL ha rfl (ac (bL hb rfl ?_)))))));rw[if_neg (by rw[la,lb,len];simp)]
 refine ac (e8 ha rfl (ac ?_));rw[eN];simp only[Std.Legacy.Range.size,Nat.sub_zero,Nat.add_sub_cancel,Nat.div_one];refine wpAny_forIn_list _ (λrest st s'=>s'=s/\st=(none,())/\∀i∈rest,i<y.size) _ ?_ ?_ _ _ ⟨rfl,rfl,λi hi=>by have:=List.mem_range'_1.mp hi;exact lin [i,y.size] [] (.c V0 V1) [.c V0 (.A K0 V1)] rfl this.2⟩
 .refine λi rest st s' u=>X0llp s' st u λhr=>?_
  have hi:=hr i (.head _);have z:∀j∈rest,j<y.size:=λj hj=>hr j (.tail _ hj);refine ac (bL ha rfl ?_);obtain⟨x,hx⟩:∃x,xs[i]?=a0 x:=⟨xs[i]'(lin [y.size,xs.length,i] [] (.c V2 V1) [.d V0 V1,.c V2 V0] rfl la hi),ax _⟩;obtain⟨k,p⟩:=x;refine X1pp (same i k p hx) λq T tw=>?_;rw[entry_at ea i,hx];dsimp only[ef,cH];refine ac (bh (ac (wpAny_dictFind_heap hu (isx _ (ah hx)) hb rfl eb Y B (λhn=>absurd T (hn i q)) λj p' hj=>?_)));have hij:j=i:=by
   have h1:(O.map (·.1))[j]?=a0 k:=by rw[aM,hj];rfl
   have h2:(O.map (·.1))[i]?=a0 k:=by rw[aM,T];rfl
   exact(ic (cL.mp h1).1 B).mp (h1.trans h2.symm)
  clear u hr hi hx;subst hij;refine ac (bL hb rfl ?_);rw[entry_at eb j,T];dsimp only[ef,cH];refine bh (tw.eqb ?_);rw[if_neg (by decide)]
  refine ac (e8 ha rfl ?_);rw[if_neg (by simp)]
  exact ai ⟨rfl,rfl,z⟩
 .exact λst s' u=>X0llp s' st u λZ=>ai h
theorem dict_eq(ha:DictE s.heap a esa na)(z:DictE s.heap b esb nb)(wp:∀nm Q,Q a6 s->wpAny (model prog w) A (cK nm a b) Q E s)(h:P (.done (.ret (.bool a6))) s):wpAny (model prog w) A (dE.«dict.__eq__» ⟨[.ref a,.ref b],[]⟩) P E s:=by
 show wpAny _ _ (dC "__eq__" ⟨[.ref a,.ref b],[]⟩ >>= _) _ _ s;refine ac ?_;unfold dC;refine ac (cV ha.typeIs ?_);show wpAny _ _ (pure (bK a,bK b)) _ _ s;refine ai ?_;show wpAny _ _ (isInstance (.ref b) (.type "dict") >>= _) _ _ s;refine ac (dQ z.typeIs gy ?_);simp only[gd,bM,if_false];show wpAny _ _ (cK _ a b >>= _) _ _ s;exact ac (wp _ _ (ai h))
theorem dict_ne(ha:DictE s.heap a esa na)(z:DictE s.heap b esb nb)(wp:∀nm Q,Q a6 s->wpAny (model prog w) A (cK nm a b) Q E s)(h:P (.done (.ret (.bool a7))) s):wpAny (model prog w) A (dE.«dict.__ne__» ⟨[.ref a,.ref b],[]⟩) P E s:=by
 show wpAny _ _ (dC "__ne__" ⟨[.ref a,.ref b],[]⟩ >>= _) _ _ s;refine ac ?_;unfold dC;refine ac (cV ha.typeIs ?_);show wpAny _ _ (pure (bK a,bK b)) _ _ s;refine ai ?_;show wpAny _ _ (isInstance (.ref b) (.type "dict") >>= _) _ _ s;refine ac (dQ z.typeIs gy ?_);simp only[gd,bM,if_false];show wpAny _ _ (cK _ a b >>= _) _ _ s;exact ac (wp _ _ (ai h))
end
section
variable {S:Sta}{F:Fx S}{m:Nat->Option AV}{V:L0}{X:a8->ag->Prop}
theorem XsOf.twin:∀{l:List (Ah×AV)}{xs O:List (List Int×bg×a8)},XsOf cv h D l xs->XsOf cv h D l O->(∀p∈l,plV p.2=a6)->xs.length=O.length/\∀(i:Nat) k p,xs[i]?=a0 (k,p)->∃q,O[i]?=a0 (k,q)/\Twin p.2 q.2:=by
 intro l xs O U u B
 induction U generalizing O with
 |nil=>cases u;exact⟨rfl,λi k p h=>by exact nS h⟩
 |cons e d r rs y =>
  cases u with
  |cons e' d' T z =>
   refine An (y z λp Y=>B p (.tail _ Y)) λh1 h2=>⟨congrArg fF h1,λi k p h=>?_⟩
   cases i with
   |succ i=>exact h2 i k p h
   |zero =>
    cases h
    exact⟨_,rfl,Twin.of (B _ (.head _)) r T⟩
theorem J2{a b:AV}{Y d:a8}{l:List (Ah×AV)}{s:ag}(hs:F.St m V s)(ha:dd V a=a0 l)(hb:dd V b=a0 l)(hv:∀p∈l,plV p.2=a6)(ra:Rep S.cv s.heap (F.D V) a Y)(rb:Rep S.cv s.heap (F.D V) b d) :
  ∃x y ex ey u O,Y=.ref x/\d=.ref y/\DictE s.heap x ex u/\DictE s.heap y ey O/\∀(A:c6),(be (bJ S.prog S.w)).room A->∀(E:a8->ag->Prop) nm Q,Q a6 s->wpAny (model S.prog S.w) A (cK nm x y) Q E s:=by
 refine X3lpppp Y (ra.dct hs.inv ha) λx ex u e sx nd z=>X3lpppp d (rb.dct hs.inv hb) λy ey O U sy B T=>X1pp (RepD.xs (S:=S) z) λxs hx Z0=>?_;clear z;subst Z0;refine X1pp (RepD.xs (S:=S) T) λys hy Z1=>?_;clear T;subst Z1;refine An (hx.twin hy hv) λl1 l2=>X3pppppp (Ec (S:=S) hx nd e) λZ Z Z q1 Z q2 q3 q4 q5=>X3pppppp (Ec (S:=S) hy B U) λZ Z Z p1 Z p2 p3 p4 p5=>⟨x,y,_,_,u,O,rfl,rfl,e,U,λA hu E nm Q h=>I2 hu sx sy e U rfl rfl q4 p4 p5 l1 l2 h⟩
theorem KT.eqDict(ha:dd V a=a0 l)(u:dd V b=a0 l)(B:∀p∈l,plV p.2=a6)(h:Q a6 V):KT F m V .Eq a b Q X:=by
 intro U d s hs Y z;obtain⟨x,y,ex,ey,nx,ny,rfl,rfl,e,O,k⟩:=J2 hs ha u B Y z;have T:F.A.units<cLine:=by have:=F.room.un;unfold cLine;exact lin [F.A.units,F.k] [] (.c V0 EB) [.c (.A V0 (.M 20 V1)) BI] rfl this
 exact eE (op:=.Eq) e.typeIs O.typeIs PySem.F.slot_dict_eq
  (cX PySem.F.slot_dict_eq e.typeIs PySem.F.entry_dict_eq (dict_eq e O (k _ (Br F) _) ⟨_,rfl,(λe=>nomatch e),V,L2.refl _ _ _ _,hs,_,rfl,h⟩) (PySem.F.args_dict_eq_2 _ _)) T
theorem KT.neDict(ha:dd V a=a0 l)(u:dd V b=a0 l)(B:∀p∈l,plV p.2=a6)(h:Q a7 V):KT F m V .NotEq a b Q X:=by
 intro U d s hs Y z;obtain⟨x,y,ex,ey,nx,ny,rfl,rfl,e,O,k⟩:=J2 hs ha u B Y z;have T:F.A.units<cLine:=by have:=F.room.un;unfold cLine;exact lin [F.A.units,F.k] [] (.c V0 EB) [.c (.A V0 (.M 20 V1)) BI] rfl this
 exact eE (op:=.NotEq) e.typeIs O.typeIs PySem.F.slot_dict_ne
  (cX PySem.F.slot_dict_ne e.typeIs PySem.F.entry_dict_ne (dict_ne e O (k _ (Br F) _) ⟨_,rfl,(λe=>nomatch e),V,L2.refl _ _ _ _,hs,_,rfl,h⟩) (PySem.F.args_dict_ne_2 _ _)) T
end
end
section
variable {S:Sta}
section
variable {F:Fx S}{m:L4}{V:L0}{X:a8->ag->Prop}{Q:AV->L0->Prop}
theorem CN:∀{l:List α}{i:Nat},(l.map f).eraseIdx i=(l.eraseIdx i).map f
 |[],_=>rfl
 |_::_,0=>rfl
 |x::l,i+1=>congrArg (f x::·) (CN (l:=l) (i:=i))
theorem XsOf.erase(u:XsOf cv h D l xs):∀i:Nat,XsOf cv h D (l.eraseIdx i) (xs.eraseIdx i):=by
 induction u with
 |nil=>exact λZ=>.nil
 |cons e d r rs y =>
  intro i
  cases i with|zero=>exact rs|succ i=>exact .cons e d r (y i)
theorem XsOf.get(u:XsOf cv h D l xs):∀{i:Nat}{k:Ah}{x:AV},l[i]?=a0 (k,x)->∃t v,xs[i]?=a0 (key k,t,v)/\Rep cv h D x v:=by
 induction u with
 |nil=>exact λe=>by exact nS e
 |cons e d r rs y =>
  intro i k x hi
  cases i with
  |zero=>cases hi;exact⟨_,_,rfl,r⟩
  |succ i=>exact y hi
theorem CT.popD{ad:bg}{ii i:Nat}{k:Ah}{x:AV}{l:List (Ah×AV)}(ho:V ad=a0 (.dict l))(hz:l.length<=big)(hi:l[i]?=a0 (k,x))(h:Q x (V.set ad (.dict (l.eraseIdx i)))):CT F m V (.builtin "dict.pop") [.loc ad ii,sp k] Q X:=by
 refine λvals s hs r=>X2lpp vals r.two λv u ra ru=>X4lpp u ru.spot λt tx ty n e d=>X3ppppp (ra.dct hs.inv (CV ho)) λad' es n' Z0 T sm nd rd=>?_;subst Z0;obtain rfl:=(bE ra.inv).symm;refine X1pp (RepD.xs (S:=S) rd) λxs B Z1=>?_;subst Z1;have U:(xs.map (cH (be (bJ S.prog S.w)))).toArray.size<=sizeLine:=by rw[aG,rd.length];exact Bn hz
 have hd:DictE s.heap ad (xs.map (cH (be (bJ S.prog S.w)))).toArray n':=T;have hn:=B.keys▸EM nd;refine X2pp (B.get hi) λt0 y z ry=>call_meetsIn (S:=λA R s'=>(be (bJ S.prog S.w)).room A.in1/\s'=s/\R (.ok (.ret y)) { s with heap:=s.heap.update ad (Obj.mapDictKeys (·.eraseIdxIfInBounds i)),toks:=s.toks+(be (bJ S.prog S.w)).draws (key k) }) PySem.F.slot_dict_pop hd.typeIs PySem.F.entry_dict_pop (PySem.F.args_dict_pop_2 _ _) (.of_wp λA R s' ⟨hu,e0,Y⟩=>?_) ⟨Br F,rfl,?_⟩
 .subst e0
  unfold dE.«dict.pop»;refine ac ?_;unfold Builtin.Dict.keyAndDefault;refine ac (cV hd.typeIs ?_);show wpAny _ _ (pure (ad,bK t,aa)) _ _ _;refine ai (ac (bL hd rfl (ac (ai ?_))));have ne:(xs.map (cH (be (bJ S.prog S.w)))).toArray.isEmpty=a7:=by
   cases xs with|nil=>exact nS z|cons _ _=>rfl
  rw[ne];refine ac ?_;unfold Builtin.Dict.takeOut;refine bh (ac ((be (bJ S.prog S.w)).pyHash hu (D2 e) (ac (wpAny_dictFind_heap (s:={ s' with toks:=s'.toks+(be (bJ S.prog S.w)).draws (key k) }) hu (D2 e) T rfl (by simp) B.is hn (λhno=>absurd z (hno i _)) λj p hj=>?_))))
  have hij:j=i:=by
   have Y:(xs.map (·.1))[j]?=a0 (key k):=by rw[aM,hj];rfl
   have h2:(xs.map (·.1))[i]?=a0 (key k):=by rw[aM,z];rfl
   exact(ic (cL.mp Y).1 hn).mp (Y.trans h2.symm)
  clear hi h;subst hij;refine ac (bL (s:={ s' with toks:=s'.toks+(be (bJ S.prog S.w)).draws (key k) }) T rfl ?_)
  have:(xs.map (cH (be (bJ S.prog S.w)))).toArray[j]?=a0 (cH (be (bJ S.prog S.w)) (key k,t0,y)):=by simp[z]
  rw[this];exact ac (wpAny_updateDictKeys (hz:=U) (s:={ s' with toks:=s'.toks+(be (bJ S.prog S.w)).draws (key k) }) T rfl (ai (ac (wpAny_letGo (ai ⟨y,rfl,Y⟩)))))
 .have e2:(s.heap.update ad (Obj.mapDictKeys (·.eraseIdxIfInBounds i))).get? ad=a0 (AU ((xs.eraseIdx i).map (cH (be (bJ S.prog S.w)))).toArray (n'+1)):=by
   rw[bZ _ T rfl];have lt:i<(xs.map (cH (be (bJ S.prog S.w)))).length:=by rw[aj];exact(cL.mp z).1
   have:(xs.map (cH (be (bJ S.prog S.w)))).toArray.eraseIdxIfInBounds i=((xs.eraseIdx i).map (cH (be (bJ S.prog S.w)))).toArray:=by
    rw[List.eraseIdxIfInBounds_toArray,CN]
   show a0 (AU (Array.eraseIdxIfInBounds _ i) (n'+1))=_;rw[this]
  have O:((l.eraseIdx i).map (·.1)).Nodup:=by rw[<- CN];exact nd.sublist (List.eraseIdx_sublist ..)
  exact An (upd_dict (s:={ s with toks:=s.toks+(be (bJ S.prog S.w)).draws (key k) }) (l':=l.eraseIdx i) (hs.tok _) ho (bU ..).extBut e2 sm O (B.erase i).repD) λY st=>⟨_,(L2.toks _ _ _ _ _).trans st,Y,_,ry.st ((L2.toks _ _ _ _ _).trans st) Y,h⟩
theorem KD:Meth "pop" (Ty.name .dict) "dict.pop":=⟨PySem.F.plainAttrs_dict,PySem.F.slot_dict_pop,PySem.F.type_dict_pop⟩
end
end
section
variable {S:Sta}
theorem KU:typeLookup (.type "list") "keys"=pure aa:=by rw[typeLookup_type,builtinLookup_eq_fast];kernel_rfl
section
variable {A:c6}{E:a8->ag->Prop}{s:ag}
theorem KW(u:s.heap.get? a=a0 (AH xs k))(O:A.handled=aa)
  (h:∀h' tk,(∀b o,s.heap.get? b=a0 o->h'.get? b=a0 o)->Q aa { s with heap:=h',toks:=tk }):wpAny (model S.prog S.w) A (getAttr? (.ref a) "keys") Q E s:=by
 obtain⟨y,g,d,tk,os⟩:=s;have z:∀U,(⟨y,g,d,U,os⟩:ag).TypeIs (.ref a) "list":=λZ=>⟨_,u,rfl⟩;have f1:=sub_AttributeError;have f3:=dU.lookup;have f4:=dU.bind (.ref a);have f5:=am_list_getattr_none;unfold getAttr? getAttrBy? getAttrBy
 repeat (any_goals (first|assumption|exact z _|((with_reducible show wpAny _ _ (call (ew "list.__getattribute__") _ _) _ _ _);refine call_meets dU (z _) am_entry_list_getattribute (PySem.F.args_list_getattribute_2 _ _) (meets_getattribute_miss_list a xs k #[] "keys" _ KU (by decide +kernel) (by decide)) ⟨u,O,λh' U e Y=>?_⟩)|wp_step))
 refine X2p Y.there λT B he=>?_;show wpAny _ _ (getattributeRaised _ _ _ _ _ _ _) _ _ _;unfold getattributeRaised
 repeat (any_goals (first|assumption|wp_step))
 exact h _ _ Y.keeps
noncomputable abbrev pvA(p:Ah×AV):AV:=.tup [sp p.1,p.2]
theorem dget_key(h:A2 l k=a0 x):k∈l.map (·.1):=by
 refine X1pp (aX.mp h) λp d Z=>?_;have O:=List.find?_some d;have e:=of_decide_eq_true O;exact aJ.mpr ⟨p,List.mem_of_find?_eq_some d,e⟩
theorem RepD.snoc(e:h.get? t=a0 (BD #[.int k.1 tx,.int k.2 ty] n))(d:¬D t)(O:Rep cv h D x v) :
  ∀{l:List (Ah×AV)}{es:List bT},RepD cv h D l es->RepD cv h D (l++[(k,x)]) (es++[⟨AX k,.ref t,v⟩])
 |[],es,r=>by rw[show es=[] from r.inv];exact .cons e d O .nil
 |p::l,es,r=>by
  exact X6lpppp es r.inv λZ Z Z Z Z z a b c Y=>.cons a b c (RepD.snoc e d O Y)
theorem EU:entryFor table "dict.update.loop"=a0 dE.«dict.update.loop»:=entryFor_of_tree (by kernel_rfl)
theorem EJ:plainId "dict.update.loop"=a6:=by decide +kernel
theorem GR{y:List a8}{n0:Nat}{R:Except a8 Flow->ag->Prop}(nd:h0.get? d=aa)(ni:h0.get? it=aa)(Y:it≠d)(hl:h0.get? l=a0 (AH y.toArray n0))(hA:A.handled=aa)(hu1:(be (bJ S.prog S.w)).room A.in1) :
  ∀{r:List (Ah×AV)}{i:Nat}{done:List (Ah×AV)}{es:List bT}{nn:Nat}{s:ag},RepL cv h0 D (r.map pvA) (y.drop i)->(∀b o,h0.get? b=a0 o->s.heap.get? b=a0 o)->s.heap.IsListIter it l i->s.heap.get? d=a0 (AU es.toArray nn)->RepD cv h0 D done es->((done++r).map (·.1)).Nodup->done.length+r.length<=big ->
  (∀h' tk B n',(∀b o,h0.get? b=a0 o->h'.get? b=a0 o)->h'.get? d=a0 (AU (aA B) n')->RepD cv h0 D (done++r) B->R (.ok (.ret .none)) { s with heap:=h',toks:=tk }) ->
  codeAny (model S.prog S.w) A (.builtin "dict.update.loop" ⟨[.ref d,.ref it,.int i 0,.none],[]⟩) R s:=by
 intro r
 induction r with
 |nil =>
  intro i done es nn s rr kp U hd rd O hz hR;refine codeAny_builtin EU ?_;rw[Around.under_plainId EJ];have ui:y.toArray[i]?=aa:=by
   have:y.drop i=[]:=rr.inv
   have:=List.drop_eq_nil_iff.mp this
   simpa using this
  unfold dE.«dict.update.loop»;refine ac (wpAny_pyNext_list_end (l:=l) (items:=y.toArray) hA U ⟨_,kp _ _ hl,rfl,n0,rfl⟩ ui λh' he=>(ac (ai (ai (hR h' _ es nn (λb o q=>he b o (λz=>Al ni (z▸q)) (kp b o q)) (he _ _ (dO Y) hd) ?_)))))
  rwa [aF]
 |cons p r ih =>
  intro i done es nn s rr kp U hd rd O hz hR;refine X2ppp rr.inv λv vs ev rp rr'=>X3pppp rp.inv λt ws nt Z0 et dt rw_=>?_;clear rp;subst Z0;refine X2ppp rw_.two λkv xv Z1 rk rx=>?_;clear rw_;subst Z1;refine X4ppp rk.spot λta tx ty n1 Z2 ek dk=>?_;subst Z2;have ui:y[i]?=a0 (.ref t):=by
   have:=congrArg (·[0]?) ev
   simpa using this
  have ud:y.drop (i+1)=vs:=by rw[<- List.drop_drop,ev];rfl
  refine codeAny_builtin EU ?_;rw[Around.under_plainId EJ];unfold dE.«dict.update.loop»;refine ac (wpAny_pyNext_list_item (l:=l) (items:=y.toArray) U ⟨_,kp _ _ hl,rfl,n0,rfl⟩ (x:=.ref t) (by simpa using ui) λh' hit' hs'=>?_)
  have u:∀b o,h0.get? b=a0 o->h'.get? b=a0 o:=λb o q=>hs'.extBut b o (λz=>Al ni (z▸q)) (kp b o q);have hd':h'.get? d=a0 (AU es.toArray nn):=hs'.extBut _ _ (dO Y) hd;refine ac (bh (ac (wpAny_tryCatch ?_)));unfold Builtin.Dict.pairItems;refine ac (wpAny_typeOf (T := "tuple") ⟨_,u _ _ et,rfl⟩ ?_);rw[if_pos (by decide)]
  refine ac (wpAny_seqItems (u _ _ et) rfl (ai ?_));show wpAny _ _ (holding [bK ta,xv] (dictSet d (.ref ta) xv)) _ _ _;refine X1pp (RepD.xs (S:=S) (rd.ext (Ext.of_keeps u) (D':=D) λb q=>.inl q)) λxs hx Z3=>?_;clear hd;subst Z3;have hn:p.1∉done.map (·.1):=by
   rw[a9,cM]at O;exact λq=>O.2.2 _ q _ (.head _) rfl
  have hnd:(done.map (·.1)).Nodup:=by
   rw[a9,cM]at O;exact O.1
  have gn:A2 done p.1=aa:=by
   cases q:A2 done p.1 with|none=>rfl|some z=>exact(hn (dget_key q)).elim
  refine bh (wpAny_dictSet_heap hu1 (D2 (u _ _ ek)) (Ec hx hnd hd') (λh2 hm sb=>?_) (by have:=rd.length;simp at this;rw[this];exact Bn (lin [done.length,(p::r).length,big] [] (.b V0 V2) [.b (.A V0 V1) V2] rfl hz)))
  refine X1p (B2 hm) λn2 e2=>?_;have ak:atKey xs (key p.1)=aa:=by
   have:=Dj hx p.1
   rw[gn]at this
   cases q:atKey xs (key p.1)with
   |none=>rfl
   |some z=>rw[q]at this;cases this
  rw[storedH_new ak,a9]at e2;refine ai ⟨Code.quiet_builtin _ (by decide +kernel),ih (i:=i+1) (done:=done++[p]) (by rwa [ud]) (λb o q=>sb.extBut b o (λz=>Al nd (z▸q)) (u b o q)) (hit'.extBut sb.extBut Y) e2 ?_ (by rw[aH];exact O) (by rw[ar];simp at hz ⊢;exact lin [done.length,r.length,big] [] (.b (.A (.A V0 K1) V1) V2) [.b (.A V0 (.A V1 K1)) V2] rfl hz) λh3 tk B n' k3 g3 r3=>?_⟩
  .exact RepD.snoc ek dk rx rd
  .rw[aH]at r3
   exact hR h3 tk B n' k3 g3 r3
theorem GE(hl:s.heap.get? l=a0 (AH us.toArray n0))(hA:A.handled=aa)(hu:(be (bJ S.prog S.w)).room A.in1.in1)
  (rr:RepL cv s.heap D (r.map pvA) us) (nk:(r.map (·.1)).Nodup) (hz:r.length<=big)
  (h:∀h' tk es n,(∀b o,s.heap.get? b=a0 o->h'.get? b=a0 o)->h'.get? s.heap.objs.size=a0 (AU (aA es) n)->RepD cv s.heap D r es->Q (.ref s.heap.objs.size) { s with heap:=h',toks:=tk }):wpAny (model S.prog S.w) A (call (.type "dict") [.ref l]) Q E s:=by
 refine callType_codes (Q₁:=λd Ac=>d=.ref s.heap.objs.size/\Ac={ s with heap:=s.heap.push { cls:=.type "dict",data:=.dict #[] } }) PySem.F.kt_called_dict (gO _) PySem.F.entry_dict_init (kt_code_dict_new _ ⟨rfl,rfl⟩) ?_
 refine λd Ac u=>X0ll d Ac u ?_;have nd:=Ay s.heap;have y:DictE (s.heap.push { cls:=.type "dict",data:=.dict #[] }) s.heap.objs.size #[] 0:=aE _ rfl;have Y:(s.heap.push { cls:=.type "dict",data:=.dict #[] }).get? l=a0 (AH us.toArray n0):=aw _ hl;refine⟨y.typeIs,il _ _,?_⟩;unfold dE.«dict.__init__»;refine ac ?_;unfold im;refine ac (cV y.typeIs ?_);show wpAny _ _ (pure (s.heap.objs.size,[bK l])) _ _ _;refine ai ?_;show wpAny _ _ (dT "dict.__init__" s.heap.objs.size (.ref l) [] .none) _ _ _;unfold dT;refine ac (wpAny_typeOf (T := "list") ⟨_,Y,rfl⟩ ?_);rw[if_pos (by decide)]
 refine ac (KW Y hA λO tk k1=>(ac (fW (ac (fH (items:=us.toArray) ⟨_,k1 _ _ Y,rfl,n0,rfl⟩ (ai ⟨Code.quiet_builtin _ (by decide +kernel),?_⟩))))))
 have k0:∀b o,s.heap.get? b=a0 o->O.get? b=a0 o:=λb o q=>k1 b o (aw _ q);have z:=k1 _ _ y;have U:O.get? O.objs.size=aa:=Ay O;refine GR (S:=S) (A:=A.in1) (s:={ s with heap:=O.push { cls:=.type "list_iterator",data:=.fields #[.ref l,.int 0 0] },toks:=tk }) (r:=r) (i:=0) (done:=[]) (es:=[]) (nn:=0) nd (it:=O.objs.size) ?_ ?_ hl hA hu rr (λb o q=>aw _ (k0 b o q)) ⟨_,aE _ rfl,rfl,rfl⟩ (aw _ z) .nil nk (by simpa using hz) λh' tk B n' kp g rd=>?_
 .cases q:s.heap.get? O.objs.size with|none=>rfl|some o=>exact(Al U (k0 _ _ q)).elim
 .exact λe=>Al U (by rwa [e])
 .exact⟨rfl,h h' tk B n' kp g rd⟩
end
section
variable {F:Fx S}{m:L4}{V:L0}{X:a8->ag->Prop}{Q:AV->L0->Prop}
theorem CT.dictOf(hq:S.hx=aa)(ha:dl V a=a0 (l.map pvA))(hz:l.length<=big)(T:(l.map (·.1)).Nodup)(h:Fresh V (.dict l) (.dict l) Q):CT F m V (.type "dict") [a] Q X:=by
 refine λvals s hs r=>X1lp vals r.one λv Y=>X3lpp v (Y.lst hs.inv ha) λad vs n e U=>GE e (F.room.quiet hq) ?_ U T hz λh' tk es y d g B=>?_
 .show F.A.in1.in1.units<cLine
  have:=F.room.un;unfold cLine;simp;exact lin [F.A.units,F.k] [] (.c (.A (.A V0 K1) K1) EB) [.c (.A V0 (.M 20 V1)) BI] rfl this
 .exact Df (tk:=tk) hs d (Ay _) g T B h
end
end
section
set_option genCtorIdx false in
inductive Sh where
 |val (v:AV)
 |new (j:Nat)
 |tup (l:List Sh)
 |list (l:List Sh)
noncomputable abbrev Sh.ctorIdx(x:Sh):Nat:=@Sh.casesOn (λ_=>Nat) x (λ_=>0) (λ_=>1) (λ_=>2) (λ_=>3)
structure RT where
 os:List Mg
 sh:Sh
abbrev KR:=RT->LS->Prop
set_option genCtorIdx false in
inductive Rs where
 |val
 |new
 |tup (l:List Rs)
 |list (l:List Rs)
 |any
noncomputable abbrev Rs.ctorIdx(x:Rs):Nat:=@Rs.casesOn (λ_=>Nat) x 0 1 (λ_=>2) (λ_=>3) 4
structure FS where
 pure:List AV->Option AV
 spec:List AV->LS->KR->XL->Prop
 whole:Bool
structure Tab where
 q:Bool
 ex:List Nat
 fn:List (Nat×FS)
 me:List (Nat×FS)
 ky:List (Nat×(AV->Option Ah)):=[]
noncomputable def GV{α:Type}:List (Nat×α)->Nat->Option α
 |[],_=>aa
 |(j,x)::r,i=>match cr i j with
  |true=>a0 x
  |false=>GV r i
noncomputable def frz:Mg->AV
 |.list l=>.list l
 |.dict l=>.dict l
 |_=>.none
mutual
noncomputable def Sh.with(f:Nat->AV):Sh->AV
 |.val v=>v
 |.new j=>f j
 |.tup l=>.tup (Sh.withL f l)
 |.list l=>.list (Sh.withL f l)
noncomputable def Sh.withL(f:Nat->AV):List Sh->List AV
 |[]=>[]
 |x::r=>Sh.with f x::Sh.withL f r
end
noncomputable def JC:List Mg->Nat->AV
 |[],_=>.none
 |o::_,0=>frz o
 |_::r,j+1=>JC r j
def Mb:List Mg->Nat->LS->List AV->(List AV->LS->Prop)->Prop
 |[],_,V,acc,k=>k acc V
 |o::r,i,V,acc,k=>∀a,Mb r (i+1) (V.set i (.at a o)) (acc++[.loc a i]) k
def Fz(mu:Option Nat)(r:RT)(V:LS)(K:KV):Prop:=match mu with
 |aa=>K (r.sh.with (JC r.os)) V
 |some i=>Mb r.os i V [] (λvs V'=>K (r.sh.with (λj=>vs.getD j .none)) V')
def quiet(q:Bool)(P:Prop):Prop:=match q with
 |true=>P
 |false=>False
def frW(mu:Option Nat)(o:Mg)(fz:AV)(V:LS)(K:KV):Prop:=match mu with
 |aa=>K fz V
 |some i=>∀a,K (.loc a i) (V.set i (.at a o))
def cnd(lit:Bool)(P R:Prop):Prop:=match lit with
 |true=>R
 |false=>P/\R
def ifW(b:Bool)(A B:Prop):Prop:=match b with
 |true=>A
 |false=>B
def boolW(a:AV)(K:Bool->Prop):Prop:=match a with
 |.bool b=>K b
 |_=>False
def dlW(V:LS)(v:AV)(K:List AV->Prop):Prop:=match v with
 |.list l=>K l
 |.loc a i=>(match slot V i with
  |.at b (.list l)=>b=a/\K l
  |_=>False)
 |_=>False
def ddW(V:LS)(v:AV)(K:List (Ah×AV)->Prop):Prop:=match v with
 |.dict l=>K l
 |.loc a i=>(match slot V i with
  |.at b (.dict l)=>b=a/\K l
  |_=>False)
 |_=>False
def spotW(a:AV)(K:Ah->Prop):Prop:=match spot? a with
 |some k=>K k
 |aa=>False
def vwW(V:LS)(v:AV)(K:AV->Prop):Prop:=match v with
 |.loc a i=>(match slot V i with
  |.at b (.list l)=>b=a/\K (.list l)
  |.at b (.dict l)=>b=a/\K (.dict l)
  |_=>False)
 |v=>K v
noncomputable def E.nat?:E->Option Nat
 |.int i=>(match i with
  |.ofNat n=>a0 n
  |.negSucc _=>aa)
 |_=>aa
noncomputable def lit(e:E):Bool:=match e.nat? with
 |some n=>(match n with
  |0=>a7
  |n+1=>gU n 1000000)
 |aa=>a7
noncomputable def lit0(e:E):Bool:=match e.nat? with
 |some n=>gU n 1000000
 |aa=>a7
def addW(mu:Option Nat)(a b:AV)(V:LS)(K:KV):Prop:=match a with
 |.int x=>(match b with
  |.int y=>K (.int (x+y)) V
  |_=>False)
 |.str x=>(match b with
  |.str y=>x.length+y.length<=big/\K (.str (x++y)) V
  |_=>False)
 |a=>dlW V a λl=>dlW V b λk=>l.length+k.length<=big/\frW mu (.list (l++k)) (.list (l++k)) V K
def mulW(mu:Option Nat)(a b:AV)(V:LS)(K:KV):Prop:=match b with
 |.int y=>(match a with
  |.int x=>IntMulOk x y/\K (.int (x * y)) V
  |.str x=>MulOk x y/\K (.str (d6 x y)) V
  |_=>False)
 |_=>False
def int2(a b:AV)(K:Int->Int->Prop):Prop:=match a with
 |.int x=>(match b with
  |.int y=>K x y
  |_=>False)
 |_=>False
def binW(li:Bool)(mu:Option Nat)(op:Operator)(a b:AV)(V:LS)(K:KV):Prop:=match op with
 |.Add=>addW mu a b V K
 |.Sub=>int2 a b λx y=>K (.int (x - y)) V
 |.Mult=>mulW mu a b V K
 |.Mod=>int2 a b λx y=>cnd li (y≠0) (K (.int (x.fmod y)) V)
 |.FloorDiv=>int2 a b λx y=>cnd li (y≠0/\y.natAbs<1073741824) (K (.int (x.fdiv y)) V)
 |_=>False
def EqP0(a b:AV)(t:Bool):Prop:=∃da db,GQ a=a0 da/\GQ b=a0 db/\dF da=a6/\dF db=a6/\fX da db=t
inductive EqP(a b:AV)(t:Bool):Prop
 |py (h:EqP0 a b t):EqP a b t
 |dict (l:List (Ah×AV))(ea:a=.dict l)(eb:b=.dict l)(hv:∀p∈l,plV p.2=a6)(ht:t=a6):EqP a b t
def InP(a b:AV)(t:Bool):Prop:=∃d xs,GQ a=a0 d/\(GQ b=a0 (.list xs)\/GQ b=a0 (.tuple xs))/\dI xs=a6/\d.canLay0=a6/\d.depth<=100/\(xs.any λy=>fX y d)=t
def eqW(a b:AV)(V:LS)(K:Bool->Prop):Prop:=match a with
 |.int x=>(match b with
  |.int y=>K (x == y)
  |b=>vwW V b λb'=>∃t,EqP (.int x) b' t/\K t)
 |a=>vwW V a λa'=>vwW V b λb'=>∃t,EqP a' b' t/\K t
def InV(V:LS)(a b:AV)(t:Bool):Prop:=match b with
 |.dict l=>spotW a λk=>(A2 l k).isSome=t
 |.str x=>(match a with
  |.str y=>eS x y=t
  |_=>False)
 |.loc ad i=>(match slot V i with
  |.at b' (.dict l)=>b'=ad/\spotW a λk=>(A2 l k).isSome=t
  |.at b' (.list l)=>b'=ad/\InP a (.list l) t
  |_=>False)
 |b=>InP a b t
def inW(a b:AV)(V:LS)(K:Bool->Prop):Prop:=∃t,InV V a b t/\K t
def isW(a b:AV)(K:Bool->Prop):Prop:=match b with
 |.none=>(match a with
  |.none=>K a6
  |.cls _=>False
  |_=>K a7)
 |.bool c=>(match a with
  |.bool b=>K (b == c)
  |_=>False)
 |_=>False
def ltW(a b:AV)(K:Bool->Prop):Prop:=match a with
 |.tup l=>spotW (.tup l) λp=>spotW b λq=>K (AM p q)
 |a=>int2 a b λx y=>K (decide (x<y))
def cmpW(op:CmpOp)(a b:AV)(V:LS)(K:Bool->Prop):Prop:=match op with
 |.Eq=>eqW a b V K
 |.NotEq=>eqW a b V λt=>K (!t)
 |.Lt=>ltW a b K
 |.LtE=>int2 a b λx y=>K (decide (x<=y))
 |.Gt=>int2 a b λx y=>K (decide (y<x))
 |.In=>inW a b V K
 |.NotIn=>inW a b V λt=>K (!t)
 |.Is=>isW a b K
 |.IsNot=>isW a b λt=>K (!t)
 |_=>False
def idxW(li:Bool)(i:AV)(K:Nat->Prop):Prop:=match i with
 |.int k=>cnd li (0<=k/\k<1000000) (K k.toNat)
 |_=>False
def subW(li:Bool)(a i:AV)(V:LS)(K:KV):Prop:=match a with
 |.tup l=>idxW li i λn=>(match l[n]? with
  |some x=>K x V
  |aa=>False)
 |.str x=>idxW li i λn=>∃c,x.cps[n]?=a0 c/\K (.str ⟨#[c]⟩) V
 |.nums l=>idxW li i λn=>∃x,l[n]?=a0 x/\K (.int x) V
 |.list l=>idxW li i λn=>∃x,l[n]?=a0 x/\K x V
 |.dict l=>spotW i λk=>∃x,A2 l k=a0 x/\K x V
 |.loc ad j=>(match slot V j with
  |.at b (.list l)=>b=ad/\idxW li i λn=>∃x,l[n]?=a0 x/\K x V
  |.at b (.dict l)=>b=ad/\spotW i λk=>∃x,A2 l k=a0 x/\K x V
  |_=>False)
 |_=>False
noncomputable abbrev FW(t o:AV):List (Str×AV):=[("texts",t),("own",o)]
noncomputable def Slot.obj?:Slot->Option (bg×Mg)
 |.at a o=>a0 (a,o)
 |.no=>aa
noncomputable def fields?(V:LS)(i:Nat):Option ((bg×bg)×bg×List (Str×AV)):=(slot V i).obj?.bind λb=>b.2.inst?.bind λd=>(slot V (i+1)).obj?.bind λc=>c.2.attrs?.bind λl=>a0 ((b.1,d),c.1,l)
def instW(V:LS)(a:AV)(K:AV->AV->Prop):Prop:=match a with
 |.inst l=>(match two? l with
  |some p=>(p.1.1 = "texts"/\p.2.1 = "own")/\K p.1.2 p.2.2
  |aa=>False)
 |.loc x i=>(match fields? V i with
  |some f=>(match two? f.2.2 with
   |some p=>(f.1.1=x/\f.2.1=f.1.2/\p.1.1 = "texts"/\p.2.1 = "own")/\K p.1.2 p.2.2
   |aa=>False)
  |aa=>False)
 |_=>False
def attrW(n:Nat)(a:AV)(V:LS)(K:KV):Prop:=instW V a λt o=>match n with
 |11=>noCls t=a6/\K t V
 |12=>noCls o=a6/\K o V
 |_=>False
noncomputable def tyW(V:LS):AV->Option Ty
 |.none=>a0 .none
 |.bool _=>a0 .bool
 |.int _=>a0 .int
 |.str _=>a0 .str
 |.tup _=>a0 .tup
 |.list _=>a0 .list
 |.dict _=>a0 .dict
 |.loc _ i=>(match slot V i with
  |.at _ (.list _)=>a0 .list
  |.at _ (.dict _)=>a0 .dict
  |_=>aa)
 |_=>aa
def atW(V:LS)(a:AV)(P:Prop):Prop:=match a with
 |.loc x i=>(match slot V i with
  |.at b _=>b=x/\P
  |.no=>False)
 |_=>P
def lenW(a:AV)(V:LS)(K:KV):Prop:=match a with
 |.str x=>x.length<=big/\K (.int x.length) V
 |.tup l=>l.length<=big/\K (.int l.length) V
 |.nums l=>l.length<=big/\K (.int l.length) V
 |.list l=>l.length<=big/\K (.int l.length) V
 |.dict l=>l.length<=big/\K (.int l.length) V
 |.loc ad i=>(match slot V i with
  |.at b (.list l)=>b=ad/\l.length<=big/\K (.int l.length) V
  |.at b (.dict l)=>b=ad/\l.length<=big/\K (.int l.length) V
  |_=>False)
 |_=>False
noncomputable def isi?(V:LS)(a:AV)(j:Nat):Option Bool:=(tyW V a).bind λt=>(tyCls j).bind λu=>a0 (isT t u)
def isiW(ex:List Nat)(a c:AV)(V:LS)(K:KV):Prop:=match c with
 |.cls j=>(match a with
  |.exc c=>(match ex.contains c && ex.contains j && fM 18 c && fM c 27 && fM 17 j && fM j 27 with
   |true=>K (.bool (xsub c j)) V
   |false=>False)
  |a=>atW V a (match isi? V a j with
   |some b=>K (.bool b) V
   |aa=>False))
 |_=>False
def listW(q:Bool)(mu:Option Nat)(a:AV)(V:LS)(K:KV):Prop:=match a with
 |.tup l=>l.length<=big/\frW mu (.list l) (.list l) V K
 |.list l=>l.length<=big/\frW mu (.list l) (.list l) V K
 |.dict l=>quiet q (l.length<=big/\frW mu (.list (l.map λp=>sp p.1)) (.list (l.map λp=>sp p.1)) V K)
 |.loc ad i=>(match slot V i with
  |.at b (.list l)=>b=ad/\l.length<=big/\frW mu (.list l) (.list l) V K
  |.at b (.dict l)=>b=ad/\quiet q (l.length<=big/\frW mu (.list (l.map λp=>sp p.1)) (.list (l.map λp=>sp p.1)) V K)
  |_=>False)
 |_=>False
noncomputable def ints?:List AV->Option (List Int)
 |[]=>a0 []
 |a::r=>a.int?.bind λx=>(ints? r).bind λl=>a0 (x::l)
def rngW(V:LS)(K:KV):List Int->Prop
 |[]=>False
 |a::r=>(match r with
  |[]=>K (.range 0 a 1) V
  |b::r=>(match r with
   |[]=>K (.range a b 1) V
   |c::r=>(match r with
    |[]=>c≠0/\c.natAbs<1073741824/\K (.range a b c) V
    |_::_=>False)))
def Ke(avs:List AV)(V:LS)(K:KV):Prop:=match ints? avs with
 |some l=>rngW V K l
 |aa=>False
def buW(q:Bool)(ex:List Nat)(mu:Option Nat)(i:Nat)(avs:List AV)(V:LS)(K:KV):Prop:=match i with
 |0=>(match avs with
  |[a]=>lenW a V K
  |_=>False)
 |1=>(match avs with
  |[a,c]=>isiW ex a c V K
  |_=>False)
 |5=>(match avs with
  |[a]=>listW q mu a V K
  |_=>False)
 |7=>(match avs with
  |[a]=>(ddW V a λl=>(l.length<=big/\l≠[]/\(l.map λp=>AX p.1).Nodup)/\frW mu (.dict l) (.dict l) V K)\/quiet q (dlW V a λL=>∃l,L=l.map pvA/\(l.length<=big/\(l.map (·.1)).Nodup)/\frW mu (.dict l) (.dict l) V K)
  |_=>False)
 |8=>Ke avs V K
 |11=>(match avs with
  |[a]=>quiet q (spotW a λp=>(p.1.natAbs<=1000000/\p.2.natAbs<=1000000)/\K (.int (p.1+p.2)) V)
  |_=>False)
 |12=>(match avs with
  |[a]=>(match a with
   |.int x=>K (.int x.natAbs) V
   |_=>False)
  |_=>False)
 |13=>(match avs with
  |[a,b]=>quiet q (int2 a b λx y=>K (.int (min x y)) V)
  |_=>False)
 |14=>(match avs with
  |[a,b]=>quiet q (int2 a b λx y=>K (.int (max x y)) V)
  |_=>False)
 |15=>(match avs with
  |[a]=>quiet q (dlW V a λl=>∃bs:List Bool,l=bs.map .bool/\K (.bool (bs.all id)) V)
  |_=>False)
 |16=>(match avs with
  |[a]=>quiet q (dlW V a λl=>∃bs:List Bool,l=bs.map .bool/\K (.bool (bs.any id)) V)
  |_=>False)
 |_=>False
noncomputable def Bk:List AV->Nat->List AV
 |[],_=>[]
 |x::r,n=>(match x with
  |.loc a _=>.loc a n::Bk r (n+1)
  |x=>x::Bk r n)
noncomputable def AO:List AV->List Nat
 |[]=>[]
 |x::r=>(match x with
  |.loc _ i=>i::AO r
  |_=>AO r)
noncomputable def HV:List Nat->Bool
 |[]=>a6
 |i::r=>!(r.any (cr i)) && HV r
noncomputable def wb(V:LS):List Nat->LS->LS
 |[],_=>V
 |i::r,s::t=>wb (V.set i s) r t
 |i::r,[]=>wb (V.set i .no) r []
def G6(f:FS)(mu:Option Nat)(avs:List AV)(V:LS)(K:KV)(X:XL):Prop:=match f.pure avs with
 |some v=>K v V
 |aa=>(match f.whole with
  |true=>f.spec avs V (λr V'=>Fz mu r V' K) X
  |false=>(match HV (AO avs)with
   |true=>f.spec (Bk avs 0) ((AO avs).map (slot V)) (λr V'=>Fz mu r (wb V (AO avs) V') K) (λc V'=>X c (wb V (AO avs) V'))
   |false=>False))
def callW(Φ:Tab)(X:XL)(mu:Option Nat)(i:Nat)(avs:List AV)(V:LS)(K:KV):Prop:=match gU i 17 with
 |true=>buW Φ.q Φ.ex mu i avs V K
 |false=>(match GV Φ.fn i with
  |some f=>G6 f mu avs V K X
  |aa=>False)
def slotD(V:LS)(a:AV)(K:bg->Nat->List (Ah×AV)->Prop):Prop:=match a with
 |.loc x i=>(match slot V i with
  |.at b (.dict l)=>b=x/\K b i l
  |_=>False)
 |_=>False
def slotL(V:LS)(a:AV)(K:bg->Nat->List AV->Prop):Prop:=match a with
 |.loc x i=>(match slot V i with
  |.at b (.list l)=>b=x/\K x i l
  |_=>False)
 |_=>False
def methW(n:Nat)(a:AV)(avs:List AV)(V:LS)(K:KV):Prop:=match n with
 |0=>(match avs with
  |[x]=>slotL V a λad i l=>l.length<=big/\K .none (V.set i (.at ad (.list (l++[x]))))
  |_=>False)
 |1=>(match avs with
  |[]=>slotL V a λad i l=>l.length<=big/\∃x,l.getLast?=a0 x/\K x (V.set i (.at ad (.list l.dropLast)))
  |_=>False)
 |6=>(match avs with
  |[k]=>ddW V a λl=>spotW k λkk=>K ((A2 l kk).getD .none) V
  |[k,x]=>ddW V a λl=>spotW k λkk=>K ((A2 l kk).getD x) V
  |_=>False)
 |_=>(match a with
  |.str x=>(match avs with
   |[b]=>dlW V b λl=>∃ys:List Str,l=ys.map .str/\(ys.map (·.length)).sum+ys.length * x.length<=1000000/\K (.str (Txt.join x ys)) V
   |_=>False)
  |_=>False)
def objW(n:Nat)(a:AV)(V:LS)(P:Prop):Prop:=match n with
 |6=>ddW V a λZ=>P
 |8=>(match a with
  |.str _=>P
  |_=>False)
 |_=>slotL V a λZ Z Z=>P
noncomputable def hasF(Φ:Tab)(i:Nat):Bool:=gU i 17 || (GV Φ.fn i).isSome
noncomputable def isMe:Nat->Bool
 |0|1|3|6|8=>a6
 |_=>a7
noncomputable def Dz(f:AV->Option Ah)(x:AV):Ah:=match f x with
 |some p=>p
 |aa=>(0,0)
def Sorts(f:AV->Option Ah)(L L':List AV):Prop:=L'.Perm L/\L'.Pairwise (λx y=>AM (Dz f x) (Dz f y)=a6)
def sortW(f:AV->Option Ah)(mu:Option Nat)(L:List AV)(V:LS)(K:KV):Prop :=
 ((∀x∈L,(f x).isSome=a6)/\L.length<64/\(L.map (Dz f)).Nodup)/\∀L',Sorts f L L'->frW mu (.list L') (.list L') V K
abbrev KG:=List AV->Option Nat->LS->Prop
def iterW(q:Bool)(a:AV)(V:LS)(G:KG):Prop:=match a with
 |.tup l=>quiet q (G l aa V)
 |.list l=>quiet q (G l aa V)
 |.str x=>quiet q (x.cps.all (·<128)=a6/\G (C8 x) aa V)
 |.dict l=>quiet q (G (l.map λp=>sp p.1) aa V)
 |.range a b c=>cC a b c=a6/\G (A1 a c (Bd a b c)) aa V
 |.loc x i=>(match slot V i with
  |.at b (.list l)=>b=x/\quiet q (G l (a0 i) V)
  |_=>False)
 |_=>False
def enumW(q:Bool)(a:AV)(V:LS)(G:KG):Prop:=match a with
 |.str x=>quiet q (x.cps.all (·<128)=a6/\G (CQ (C8 x)) aa V)
 |.list l=>quiet q (G (CQ l) aa V)
 |.loc x i=>(match slot V i with
  |.at b (.list l)=>b=x/\quiet q (G (CQ l) (a0 i) V)
  |_=>False)
 |_=>False
def stays(ok:Option Nat)(V V':LS)(P:Prop):Prop:=match ok with
 |aa=>P
 |some i=>slot V' i=slot V i/\P
mutual
def patW(q:Bool):Pat->AV->M->(M->Prop)->Prop
 |.v i,a,m,K=>K (Ev m i a)
 |.tup ps,a,m,K=>quiet q (match a with
  |.tup l=>(match cr ps.length l.length with
   |true=>patsW q ps l m K
   |false=>False)
  |_=>False)
def patsW(q:Bool):List Pat->List AV->M->(M->Prop)->Prop
 |[],[],m,K=>K m
 |p::ps,a::as,m,K=>patW q p a m (λAo=>patsW q ps as Ao K)
 |_,_,_,_=>False
end
noncomputable def kSeq(f:M->LS->KS->Prop)(K:KS):KS:=λfl m V=>match fl with
 |.next=>f m V K
 |.ret v=>K (.ret v) m V
noncomputable def Fu(ok:Option Nat)(V:LS)(C:M->LS->Prop)(K:KS):KS:=λfl m Ab=>match fl with
 |.next=>stays ok V Ab (C m Ab)
 |.ret v=>K (.ret v) m Ab
noncomputable def kWh(n:Nat)(I:Nat->M->LS->Prop)(K:KS):KS:=λfl m V=>match fl with
 |.next=>∃n',n'<n/\I n' m V
 |.ret v=>K (.ret v) m V
set_option tactic.hygienic true in
def Jm(q:Bool)(p:Pat)(body:M->LS->KS->Prop)(ok:Option Nat)(K:KS):List AV->M->LS->Prop
 |[],m,V=>K .next m V
 |x::r,m,V=>patW q p x m (λAo=>body Ao V (Fu ok V (Jm q p body ok K r) K))
def Eh(i:Nat)(elt:M->LS->KV->Prop)(tst:M->LS->KB->Prop)(ok:Option Nat)(m:M)(K:List AV->LS->Prop):List AV->List AV->LS->Prop
 |[],ys,V=>K ys V
 |x::r,ys,V=>tst (Ev m i x) V (λb Aa=>ifW b (elt (Ev m i x) Aa (λy Ab=>stays ok V Ab (Eh i elt tst ok m K r (ys++[y]) Ab)))
  (stays ok V Aa (Eh i elt tst ok m K r ys Aa)))
structure WT where
 v:Option Nat->M->LS->KV->Prop
 t:M->LS->KB->Prop
noncomputable def vt(f:Option Nat->M->LS->KV->Prop):WT:=⟨f,λm V K=>f aa m V (λa V'=>boolW a λb=>K b V')⟩
def IZ:List WT->M->LS->(List AV->LS->Prop)->Prop
 |[],_,V,K=>K [] V
 |f::r,m,V,K=>f.v aa m V (λa Aa=>IZ r m Aa (λl Ab=>K (a::l) Ab))
def andT:List WT->M->LS->KB->Prop
 |[],_,V,K=>K a6 V
 |f::r,m,V,K=>f.t m V (λb Aa=>ifW b (andT r m Aa K) (K a7 Aa))
def orT:List WT->M->LS->KB->Prop
 |[],_,V,K=>K a7 V
 |f::r,m,V,K=>f.t m V (λb Aa=>ifW b (K a6 Aa) (orT r m Aa K))
def andV:List WT->M->LS->KV->Prop
 |[],_,_,_=>False
 |f::r,m,V,K=>(match r with
  |[]=>f.v aa m V K
  |_::_=>f.v aa m V (λa Aa=>boolW a λb=>ifW b (andV r m Aa K) (K (.bool a7) Aa)))
def orV:List WT->M->LS->KV->Prop
 |[],_,_,_=>False
 |f::r,m,V,K=>(match r with
  |[]=>f.v aa m V K
  |_::_=>f.v aa m V (λa Aa=>boolW a λb=>ifW b (K (.bool a6) Aa) (orV r m Aa K)))
def pairW:List WT->List WT->List (AV×AV)->M->LS->(List (AV×AV)->LS->Prop)->Prop
 |[],[],r,_,V,K=>K r V
 |f::fs,g::gs,r,m,V,K=>f.v aa m V (λa Aa=>g.v aa m Aa (λb Ab=>pairW fs gs (r++[(a,b)]) m Ab K))
 |_,_,_,_,_,_=>False
def dictW(mu:Option Nat)(ps:List (AV×AV))(V:LS)(K:KV):Prop:=match fM ps.length 15 with
 |true=>(match mkD ps []with
  |some l=>frW mu (.dict l) (.dict l) V K
  |aa=>False)
 |false=>False
def few{α:Type}(l:List α)(P:Prop):Prop:=match gU l.length 15 with
 |true=>P
 |false=>False
def GW(fs:List WT)(m:M)(V:LS)(K:KB):Prop:=match fs with
 |[]=>K a6 V
 |[f]=>f.t m V K
 |_=>False
def gW(Φ:Tab)(i:Nat)(V:LS)(K:KV):Prop:=match cr i 28 with
 |true=>(match Φ.ex.contains 28 with
  |true=>K (.int 6) V
  |false=>False)
 |false=>(match gU i 17 || Φ.ex.contains i with
  |true=>K (.cls i) V
  |false=>False)
def clrW(fs:List WT)(a:AV)(V:LS)(K:KV):Prop:=match fs with
 |[]=>slotL V a λad i l=>l.length<=big/\K .none (V.set i (.at ad (.list [])))
 |_=>False
def popW(fs:List WT)(m:M)(a:AV)(V:LS)(K:KV):Prop:=match fs with
 |[]=>objW 1 a V (methW 1 a [] V K)
 |f::fs=>(match fs with
  |[]=>slotD V a λZ Z Z=>f.v aa m V (λk Aa=>spotW k λkk=>slotD Aa a λad i l=>l.length<=big/\∃j v,l[j]?=a0 (kk,v)/\K v (Aa.set i (.at ad (.dict (l.eraseIdx j)))))
  |_::_=>False)
def bmW(n:Nat)(fs:List WT)(m:M)(a:AV)(V:LS)(K:KV):Prop:=match n with
 |1=>popW fs m a V K
 |3=>clrW fs a V K
 |n=>objW n a V (IZ fs m V (λavs Ab=>methW n a avs Ab K))
def omW(o:Option FS)(g:WT)(fs:List WT)(mu:Option Nat)(X:XL)(m:M)(V:LS)(K:KV):Prop:=match o with
 |some f=>g.v aa m V (λa Aa=>instW Aa a λZ Z=>IZ fs m Aa (λavs Ab=>instW Ab a λZ Z=>G6 f mu (a::avs) Ab K X))
 |aa=>False
mutual
noncomputable def wp(Φ:Tab):E->XL->WT
 |.none,_=>vt λZ Z V K=>K .none V
 |.bool b,_=>vt λZ Z V K=>K (.bool b) V
 |.int i,_=>vt λZ Z V K=>K (.int i) V
 |.str s,_=>vt λZ Z V K=>K (.str s) V
 |.v i,_=>vt λZ m V K=>match m.getD i aa with
  |some a=>K a V
  |aa=>False
 |.g i,_=>vt λZ Z V K=>gW Φ i V K
 |.tup es,X=>vt λZ m V K=>few es (IZ (wpL Φ es X) m V (λl V'=>K (.tup l) V'))
 |.list es,X=>vt λmu m V K=>few es (IZ (wpL Φ es X) m V (λl V'=>frW mu (.list l) (.list l) V' K))
 |.dict ks vs,_=>vt λmu m V K=>(match cr ks.length vs.length && gU ks.length 15 with
  |true=>pairW (wpL Φ ks BU) (wpL Φ vs BU) [] m V (λps V'=>dictW mu ps V' K)
  |false=>False)
 |.bin op l r,X=>vt λmu m V K=>(wp Φ l X).v aa m V (λa Aa=>(wp Φ r X).v aa m Aa (λb Ab=>binW (lit r) mu op a b Ab K))
 |.neg x,X=>vt λZ m V K=>(wp Φ x X).v aa m V (λa Aa=>match a with
  |.int i=>K (.int (-i)) Aa
  |_=>False)
 |.not x,X=>⟨λZ m V K=>(wp Φ x X).v aa m V (λa Aa=>boolW a λb=>K (.bool (!b)) Aa),λm V K=>(wp Φ x X).t m V (λb Aa=>K (!b) Aa)⟩
 |.and es,X=>⟨λZ m V K=>andV (wpL Φ es X) m V K,λm V K=>andT (wpL Φ es X) m V K⟩
 |.or es,X=>⟨λZ m V K=>orV (wpL Φ es X) m V K,λm V K=>orT (wpL Φ es X) m V K⟩
 |.cmp op l r,X=>⟨λZ m V K=>(wp Φ l X).v aa m V (λa Aa=>(wp Φ r X).v aa m Aa (λb Ab=>cmpW op a b Ab λt=>K (.bool t) Ab)),
   λm V K=>(wp Φ l X).v aa m V (λa Aa=>(wp Φ r X).v aa m Aa (λb Ab=>cmpW op a b Ab λt=>K t Ab))⟩
 |.cmp2 o1 o2 a b c,X=>⟨λZ Z Z Z=>False,λm V K=>(wp Φ a X).v aa m V (λx Aa=>(wp Φ b X).v aa m Aa (λy Ab=>cmpW o1 x y Ab λt=>ifW t ((wp Φ c X).v aa m Ab (λz As=>cmpW o2 y z As λt=>K t As)) (K a7 Ab)))⟩
 |.ite c a b,X=>⟨λmu m V K=>(wp Φ c X).t m V (λt Aa=>ifW t ((wp Φ a X).v mu m Aa K) ((wp Φ b X).v mu m Aa K)),λZ Z Z=>False⟩
 |.sub o i,X=>vt λZ m V K=>(wp Φ o X).v aa m V (λa Aa=>(wp Φ i X).v aa m Aa (λk Ab=>subW (lit0 i) a k Ab K))
 |.attr (.v i) n,_=>vt λZ m V K=>match m.getD i aa with
  |some a=>attrW n a V K
  |aa=>False
 |.call (.g i) (e::es),X=>vt λmu m V K=>(match hasF Φ i with
  |true=>IZ (wpL Φ (e::es) X) m V (λavs Aa=>callW Φ X mu i avs Aa K)
  |false=>False)
 |.sorted x (.g i),X=>vt λmu m V K=>match GV Φ.ky i with
  |some f=>(wp Φ x X).v aa m V (λa Aa=>dlW Aa a λL=>sortW f mu L Aa K)
  |aa=>False
 |.meth o n args,X=>vt λmu m V K=>ifW (isMe n) ((wp Φ o X).v aa m V (λa Aa=>bmW n (wpL Φ args X) m a Aa K)) (omW (GV Φ.me n) (wp Φ o X) (wpL Φ args X) mu X m V K)
 |.comp elt i src cs,X=>vt λmu m V K=>(wp Φ src X).v aa m V (λa Aa=>iterW Φ.q a Aa (λitems ok Ab=>items.length<=big/\Eh i ((wp Φ elt BU).v aa) (GW (wpL Φ cs BU)) ok m (λys As=>frW mu (.list ys) (.list ys) As K) items [] Ab))
 |.mu l e,X=>⟨λZ m V K=>(wp Φ e X).v (a0 l) m V K,λm V K=>(wp Φ e X).t m V K⟩
 |_,_=>⟨λZ Z Z Z=>False,λZ Z Z=>False⟩
noncomputable def wpL(Φ:Tab):List E->XL->List WT
 |[],_=>[]
 |e::r,X=>wp Φ e X::wpL Φ r X
end
def slotI(V:LS)(a:AV)(K:bg->Nat->bg->List (Str×AV)->Prop):Prop:=match a with
 |.loc x i=>(match fields? V i with
  |some f=>(f.1.1=x/\f.2.1=f.1.2)/\K f.1.1 i f.2.1 f.2.2
  |aa=>False)
 |_=>False
noncomputable def vOf:Pat->Option Nat
 |.v i=>a0 i
 |_=>aa
noncomputable def tupOf:E->Option (List E)
 |.tup es=>a0 es
 |_=>aa
noncomputable def asg3(p q:Pat)(a b:E):Bool:=match vOf p with
 |some i=>(match vOf q with
  |some j=>!(cr i j) && (D1 8 a || D1 8 b)
  |aa=>a7)
 |aa=>a7
noncomputable def asg2(ps:List Pat)(es:List E):Bool:=match two? ps with
 |some pq=>(match two? es with
  |some ab=>asg3 pq.1 pq.2 ab.1 ab.2
  |aa=>a7)
 |aa=>a7
noncomputable def asgT(ps:List Pat)(e:E):Bool:=match tupOf e with
 |some es=>asg2 ps es || (fM 4 ps.length && AK e)
 |aa=>Gb e && AK e
noncomputable def notMu:E->Bool
 |.mu _ _=>a7
 |_=>a6
noncomputable def notMu2:E->Bool
 |.mu _ e=>notMu e
 |_=>a6
noncomputable def asgOk(q:Bool)(p:Pat)(e:E):Bool:=match p with
 |.v _=>notMu2 e
 |.tup ps=>q && asgT ps e
noncomputable def E.g?:E->Option Nat
 |.g i=>a0 i
 |_=>aa
noncomputable def E.str?:E->Option Str
 |.str t=>a0 t
 |_=>aa
noncomputable def call1?:E->Option (Nat×E)
 |.call f es=>f.g?.bind λi=>(one? es).bind λe=>a0 (i,e)
 |_=>aa
noncomputable def LI(e:E):Option E:=(call1? e).bind λp=>match cr p.1 9 with
 |true=>a0 p.2
 |false=>aa
noncomputable def isTup:Pat->Bool
 |.tup _=>a6
 |_=>a7
def srcS(Φ:Tab)(X:XL)(p:Pat)(e:E)(m:M)(V:LS)(G:KG):Prop:=match LI e with
 |some e'=>(match isTup p with
  |true=>(wp Φ e' X).v aa m V (λa Aa=>enumW Φ.q a Aa G)
  |false=>False)
 |aa=>(wp Φ e X).v aa m V (λa Aa=>iterW Φ.q a Aa G)
noncomputable def xcOf(e:E):Option Nat:=(call1? e).bind λp=>p.2.str?.bind λZ=>a0 p.1
noncomputable def isXc(ex:List Nat)(i:Nat):Bool:=ex.contains i && fM 18 i && fM i 27
set_option tactic.hygienic true in
mutual
def wpS(Φ:Tab):Internal.S->XL->M->LS->KS->Prop
 |.assign p e,X,m,V,K=>quiet (asgOk Φ.q p e) ((wp Φ e X).v aa m V (λa Aa=>patW Φ.q p a m (λAo=>K .next Ao Aa)))
 |.setattr o n e,X,m,V,K=>quiet (AK e && (cr n 11 || cr n 12)) ((wp Φ e X).v aa m V (λx Aa=>(wp Φ o X).v aa m Aa (λa Ab=>slotI Ab a λZ i d fs=>fs.length<=100/\K .next m (Ab.set (i+1) (.at d (.attrs (JB fs (fld n) x)))))))
 |.setitem o i e,X,m,V,K=>quiet (AK e) ((wp Φ e X).v aa m V (λx Aa=>(wp Φ o X).v aa m Aa (λa Ab=>(wp Φ i X).v aa m Ab (λk As=>slotD As a λb j l=>l.length<=big/\spotW k λkk=>K .next m (As.set j (.at b (.dict (Bs l kk x))))))))
 |.expr e,X,m,V,K=>quiet (AK e) ((wp Φ e X).v aa m V (λZ Aa=>K .next m Aa))
 |.ret e,X,m,V,K=>(wp Φ e X).v aa m V (λa Aa=>K (.ret a) m Aa)
 |.ite c a b,X,m,V,K=>(wp Φ c X).t m V (λt Aa=>ifW t (wpSs Φ a X m Aa K) (wpSs Φ b X m Aa K))
 |.for_ p e body,X,m,V,K=>srcS Φ X p e m V (λitems ok Ab=>Jm Φ.q p (wpSs Φ body X) ok K items m Ab)
 |.while_ c body,X,m,V,K=>∃I:Nat->M->LS->Prop,(∃n,I n m V)/\∀n m V,I n m V->(wp Φ c X).t m V (λt Aa=>ifW t (wpSs Φ body X m Aa (kWh n I K)) (K .next m Aa))
 |.raise e,X,_,V,_=>(match xcOf e with
  |some i=>quiet (isXc Φ.ex i) (quiet Φ.q (X i V))
  |aa=>False)
 |.pass,_,m,V,K=>K .next m V
 |_,_,_,_,_=>False
def wpSs(Φ:Tab):List Internal.S->XL->M->LS->KS->Prop
 |[],_,m,V,K=>K .next m V
 |s::r,X,m,V,K=>wpS Φ s X m V (kSeq (wpSs Φ r X) K)
end
end
section
variable {S:Sta}
section
variable {F:Fx S}{m:L4}{V:LS}{X:a8->ag->Prop}{K:KV}
theorem Up.now{α:Type}{K:α->LS->Prop}{v:α}(k:okS V)(h:K v V):Up K v (Av V):=⟨V,Sub.rfl,k,h⟩
theorem Up.upd{α:Type}{K:α->LS->Prop}{v:α}{i:Nat}{a:bg}{o p:Mg}(k:okS V)(hi:slot V i=.at a o)(h:K v (V.set i (.at a p))):Up K v ((Av V).set a p) :=
 have f:Fits V i (.at a p):=λZ Z e=>by cases e;exact .inr ⟨o,hi⟩
 ⟨_,Fh k f,DQ k f,h⟩
theorem Up.add{α:Type}{K:α->LS->Prop}{v:α}{i:Nat}{a:bg}{p:Mg}(k:okS V)(y:¬Dom (Av V) a)(h:K v (V.set i (.at a p))):Up K v ((Av V).set a p) :=
 have f:Fits V i (.at a p):=λZ Z e=>by cases e;exact .inl (Dc y)
 ⟨_,Fh k f,DQ k f,h⟩
theorem frW.fresh{mu:Option Nat}{o:Mg}{Y:AV}(k:okS V)(h:frW mu o Y V K):Fresh (Av V) o Y (Up K):=by
 cases mu with|none=>exact .inl (.now k h)|some i=>exact .inr ⟨i,λa y=>.add k y (h a)⟩
theorem dlW.out{v:AV}{K:List AV->Prop}(k:okS V)(h:dlW V v K):∃l,dl (Av V) v=a0 l/\K l:=by
 cases v with
 |list l=>exact⟨l,rfl,h⟩
 |loc a i =>
  unfold dlW at h;dsimp only at h
  cases q:slot V i with
  |no=>rw[q]at h;exact h.elim
  |«at» b o =>
   rw[q]at h
   cases o with
   |list l=>obtain⟨rfl,h⟩:=h;exact⟨l,B1 (Az k q),h⟩
   |_=>exact h.elim
 |_=>exact h.elim
theorem ddW.out{v:AV}{K:List (Ah×AV)->Prop}(k:okS V)(h:ddW V v K):∃l,dd (Av V) v=a0 l/\K l:=by
 cases v with
 |dict l=>exact⟨l,rfl,h⟩
 |loc a i =>
  unfold ddW at h;dsimp only at h
  cases q:slot V i with
  |no=>rw[q]at h;exact h.elim
  |«at» b o =>
   rw[q]at h
   cases o with
   |dict l=>obtain⟨rfl,h⟩:=h;exact⟨l,CV (Az k q),h⟩
   |_=>exact h.elim
 |_=>exact h.elim
theorem spotW.out{a:AV}{K:Ah->Prop}(h:spotW a K):∃k:Ah,a=sp k/\K k:=by
 unfold spotW at h
 cases q:spot? a with|none=>rw[q]at h;exact h.elim|some k=>rw[q]at h;exact⟨k,spot?_out q,h⟩
theorem int2.out{a b:AV}{K:Int->Int->Prop}(h:int2 a b K):∃x y,a=.int x/\b=.int y/\K x y:=by
 cases a with
 |int x =>
  cases b with|int y=>exact⟨x,y,rfl,rfl,h⟩|_=>exact h.elim
 |_=>exact h.elim
theorem boolW.out{a:AV}{K:Bool->Prop}(h:boolW a K):∃b,a=.bool b/\K b:=by
 cases a with|bool b=>exact⟨b,rfl,h⟩|_=>exact h.elim
theorem quiet.out{q:Bool}{P:Prop}(h:quiet q P):q=a6/\P:=by
 cases q with|true=>exact⟨rfl,h⟩|false=>exact h.elim
theorem vwW.out{v:AV}{K:AV->Prop}(k:okS V)(h:vwW V v K):∃v',K v'/\(∀d,GQ v'=a0 d->BX (Av V) v=a0 d)/\∀l,v'=.dict l->dd (Av V) v=a0 l:=by
 cases v with
 |loc a i =>
  unfold vwW at h;dsimp only at h
  cases q:slot V i with
  |no=>rw[q]at h;exact h.elim
  |«at» b o =>
   rw[q]at h
   cases o with
   |list l =>
    obtain⟨rfl,h⟩:=h;refine⟨_,h,λd e=>?_,λl e=>(Al rfl (congrArg (λv=>dd (Av V) v) e)).elim⟩;simp only[BX,B1 (Az k q)];exact e
   |dict l=>obtain⟨rfl,h⟩:=h;exact⟨_,h,λd e=>(Al rfl e).elim,λl e=>by rw[CV (Az k q)];exact congrArg (dd (Av V)) e⟩
   |_=>exact h.elim
 |_=>exact⟨_,h,λd e=>e,λl e=>congrArg (dd (Av V)) e⟩
theorem addW_ok{mu:Option Nat}{a b:AV}(k:okS V)(h:addW mu a b V K):BT F m (Av V) .Add a b (Up K) X:=by
 have Y:(dlW V a λl=>dlW V b λk=>l.length+k.length<=big/\frW mu (.list (l++k)) (.list (l++k)) V K)->BT F m (Av V) .Add a b (Up K) X:=λh=>by
  exact X1pp (h.out k) λl O h=>X1ppp (h.out k) λl' z hz h=>BT.addList O z hz (h.fresh k)
 cases a with
 |int x =>
  cases b with|int y=>exact BT.add (.now k h)|_=>exact h.elim
 |str x =>
  cases b with|str y=>exact BT.addStr h.1 (.now k h.2)|_=>exact h.elim
 |_=>exact Y h
theorem mulW_ok{mu:Option Nat}{a b:AV}(k:okS V)(h:mulW mu a b V K):BT F m (Av V) .Mult a b (Up K) X:=by
 cases b with
 |int y =>
  cases a with|int x=>exact BT.mul h.1 (.now k h.2)|str x=>exact BT.mulStr h.1 (.now k h.2)|_=>exact h.elim
 |_=>exact h.elim
theorem cnd.out{T:Bool}{P R:Prop}(h:cnd T P R)(Y:T=a6->P):P/\R:=by
 cases T with|true=>exact⟨Y rfl,h⟩|false=>exact h
theorem L6{T:Bool}{mu:Option Nat}{op:Operator}{a b:AV}(k:okS V)(B:T=a6->∀y,b=.int y->y≠0/\y.natAbs<1073741824)(h:binW T mu op a b V K):BT F m (Av V) op a b (Up K) X:=by
 cases op with|Add=>exact addW_ok k h|Sub=>refine X2llp a b (int2.out h) λx y h=>?_;exact BT.sub (.now k h)|Mult=>exact mulW_ok (mu:=mu) k h|Mod=>unfold binW at h;refine X2ppp (int2.out h) λx y d O h=>?_;subst d;subst O;refine An (cnd.out h λq=>(B q y rfl).1) λY z=>?_;exact BT.mod Y (.now k z)|FloorDiv=>unfold binW at h;refine X2ppp (int2.out h) λx y U u h=>?_;subst U;subst u;refine An (cnd.out h λq=>B q y rfl) λY z=>?_;exact BT.div Y.1 Y.2 (.now k z)|_=>exact h.elim
theorem lit_pos{e:E}(h:lit e=a6):∃n:Nat,e=.int (n+1:Nat)/\n<1000000:=by
 cases e with
 |int i =>
  cases i with
  |ofNat n =>
   cases n with|zero=>exact nF h|succ n=>exact⟨n,rfl,eH.mp h⟩
  |negSucc n=>exact nF h
 |_=>exact(aQ h).elim
theorem lit0_pos{e:E}(h:lit0 e=a6):∃n:Nat,e=.int (n:Nat)/\n<1000000:=by
 cases e with
 |int i =>
  cases i with|ofNat n=>exact⟨n,rfl,eH.mp h⟩|negSucc n=>exact nF h
 |_=>exact(aQ h).elim
theorem eqW_ok{a b:AV}{K:Bool->LS->Prop}{f:Bool->Bool}{op:CmpOp}(Y:(op=.Eq/\f=id)\/(op=.NotEq/\f=not))(k:okS V)(h:eqW a b V λt=>K (f t) V):KT F m (Av V) op a b (Up K) X:=by
 have U:∀{a b:AV},(vwW V a λa'=>vwW V b λb'=>∃t,EqP a' b' t/\K (f t) V)->KT F m (Av V) op a b (Up K) X:=λh=>by
  refine X1ppp (h.out k) λa' h ea z=>X1ppp (h.out k) λb' h eb O=>X1pp h λt u h=>?_
  cases u with
  |py u =>
   refine X2ppppp u λda db h1 h2 h3 d T=>?_
   rcases Y with⟨rfl,rfl⟩|⟨rfl,rfl⟩
   .exact KT.eq (ea _ h1) (eb _ h2) h3 d (.now k (by rwa [T]))
   .exact KT.ne (ea _ h1) (eb _ h2) h3 d (.now k (by rwa [T]))
  |dict l e1 e2 B ht =>
   subst ht
   rcases Y with⟨rfl,rfl⟩|⟨rfl,rfl⟩
   .exact KT.eqDict (z _ e1) (O _ e2) B (.now k h)
   .exact KT.neDict (z _ e1) (O _ e2) B (.now k h)
 cases a with
 |int x =>
  cases b with
  |int y =>
   rcases Y with⟨rfl,rfl⟩|⟨rfl,rfl⟩
   .exact KT.intEq (.now k h)
   .exact KT.intNe (.now k h)
  |_=>exact U (a:=.int x) h
 |_=>exact U h
theorem Fg{s:L0}{a:AV}{d:PyData}(h:GQ a=a0 d):BX s a=a0 d:=by
 cases a<;>first|exact h|exact(Al rfl h).elim
theorem inW_ok{a b:AV}{K:Bool->LS->Prop}{f:Bool->Bool}{op:CmpOp}(Y:(op=.In/\f=id)\/(op=.NotIn/\f=not))(k:okS V)(h:inW a b V λt=>K (f t) V):KT F m (Av V) op a b (Up K) X:=by
 obtain⟨t,h,U⟩:=h;have dct:∀{l:List (Ah×AV)},dd (Av V) b=a0 l->(spotW a λk=>(A2 l k).isSome=t)->KT F m (Av V) op a b (Up K) X:=λe h=>by
  obtain⟨kk,rfl,h⟩:=h.out;subst h
  rcases Y with⟨rfl,rfl⟩|⟨rfl,rfl⟩
  .exact KT.inDict e (.now k U)
  .exact KT.notInDict e (.now k U)
 have seq:∀{v:AV},(∀d,GQ v=a0 d->BX (Av V) b=a0 d)->InP a v t->KT F m (Av V) op a b (Up K) X:=λe h=>by
  obtain⟨d,xs,h1,h2,B,u,T,O⟩:=h;have z:I0 (Av V) b=a0 xs:=by
   unfold I0
   rcases h2 with q|q<;>rw[e _ q]
  rcases Y with⟨rfl,rfl⟩|⟨rfl,rfl⟩
  .exact KT.inSeq (Fg h1) z B u T (.now k (by rwa [O]))
  .exact KT.notInSeq (Fg h1) z B u T (.now k (by rwa [O]))
 cases b with
 |dict l=>exact dct rfl h
 |str x =>
  cases a with
  |str y =>
   have h:eS x y=t:=h;clear h dct seq;subst h
   rcases Y with⟨rfl,rfl⟩|⟨rfl,rfl⟩
   .exact KT.inStr (.now k U)
   .exact KT.notInStr (.now k U)
  |_=>exact h.elim
 |loc ad i =>
  unfold InV at h;dsimp only at h
  cases q:slot V i with
  |no=>rw[q]at h;exact h.elim
  |«at» b o =>
   rw[q]at h
   cases o with
   |list l =>
    obtain⟨rfl,h⟩:=h;refine seq (v:=.list l) (λd e=>?_) h;simp only[BX,B1 (Az k q)];exact e
   |dict l=>obtain⟨rfl,h⟩:=h;exact dct (CV (Az k q)) h
   |_=>exact h.elim
 |_=>exact seq (λd e=>Fg e) h
theorem isW_ok{a b:AV}{K:Bool->LS->Prop}{f:Bool->Bool}{op:CmpOp}(Y:(op=.Is/\f=id)\/(op=.IsNot/\f=not))(k:okS V)(h:isW a b λt=>K (f t) V):KT F m (Av V) op a b (Up K) X:=by
 cases b with
 |none =>
  rcases Y with⟨rfl,rfl⟩|⟨rfl,rfl⟩
  .refine KT.isNone ?_
   cases a<;>first|exact h.elim|exact .now k h
  .refine KT.isNotNone ?_
   cases a<;>first|exact h.elim|exact .now k h
 |bool c =>
  cases a with
  |bool b =>
   rcases Y with⟨rfl,rfl⟩|⟨rfl,rfl⟩
   .exact KT.isBool (.now k h)
   .exact KT.isNotBool (.now k h)
  |_=>exact h.elim
 |_=>exact h.elim
theorem ltW_ok{a b:AV}{K:Bool->LS->Prop}(k:okS V)(h:ltW a b λt=>K t V):KT F m (Av V) .Lt a b (Up K) X:=by
 have U:(int2 a b λx y=>K (decide (x<y)) V)->KT F m (Av V) .Lt a b (Up K) X:=λh=>by
  exact X2llp a b (int2.out h) λx y h=>KT.intLt (.now k h)
 cases a with
 |tup l =>
  refine X1pp (spotW.out h) λp e h=>X1lp b h.out λq h=>?_;rw[e];exact KT.ltSpot (.now k h)
 |_=>exact U h
theorem FP{op:CmpOp}{a b:AV}{K:Bool->LS->Prop}(k:okS V)(h:cmpW op a b V λt=>K t V):KT F m (Av V) op a b (Up K) X:=by
 cases op with|Eq=>exact eqW_ok (.inl ⟨rfl,rfl⟩) k h|NotEq=>exact eqW_ok (.inr ⟨rfl,rfl⟩) k h|Lt=>exact ltW_ok k h|LtE=>refine X2llp a b (int2.out h) λx y h=>?_;exact KT.intLe (.now k h)|Gt=>refine X2llp a b (int2.out h) λx y h=>?_;exact KT.intGt (.now k h)|In=>exact inW_ok (.inl ⟨rfl,rfl⟩) k h|NotIn=>exact inW_ok (.inr ⟨rfl,rfl⟩) k h|Is=>exact isW_ok (.inl ⟨rfl,rfl⟩) k h|IsNot=>exact isW_ok (.inr ⟨rfl,rfl⟩) k h|_=>exact h.elim
theorem idxW.out{T:Bool}{i:AV}{K:Nat->Prop}(Y:T=a6->∃n:Nat,i=.int n/\n<1000000)(h:idxW T i K):∃k:Int,i=.int k/\0<=k/\k<1000000/\K k.toNat:=by
 cases i with
 |int k =>
  obtain⟨⟨u,z⟩,U⟩:=cnd.out h λq=>by
   obtain⟨n,e,O⟩:=Y q
   cases e
   exact⟨d3 n,Int.ofNat_lt.mpr O⟩
  exact⟨k,rfl,u,z,U⟩
 |_=>exact h.elim
theorem JQ{T:Bool}{a i:AV}(z:T=a6->∃n:Nat,i=.int n/\n<1000000)(k:okS V)(h:subW T a i V K):IT F m (Av V) a i (Up K) X:=by
 have lst:∀{l:List AV},dl (Av V) a=a0 l->(idxW T i λn=>∃x,l[n]?=a0 x/\K x V)->IT F m (Av V) a i (Up K) X:=λe h=>by
  obtain⟨kk,rfl,h0,Y,x,u,h⟩:=idxW.out z h;exact IT.list e h0 Y u (.now k h)
 have dct:∀{l:List (Ah×AV)},dd (Av V) a=a0 l->(spotW i λk=>∃x,A2 l k=a0 x/\K x V)->IT F m (Av V) a i (Up K) X:=λe h=>by
  obtain⟨kk,rfl,x,u,h⟩:=h.out;exact IT.dict e u (.now k h)
 cases a with
 |tup l =>
  unfold subW at h;obtain⟨kk,rfl,h0,Y,h⟩:=idxW.out z h
  cases u:l[kk.toNat]? with|none=>rw[u]at h;exact h.elim|some x=>rw[u]at h;exact IT.tup h0 Y u (.now k h)
 |str x=>unfold subW at h;obtain⟨kk,rfl,h0,Y,c,u,h⟩:=idxW.out z h;exact IT.str h0 Y u (.now k h)
 |nums l=>unfold subW at h;obtain⟨kk,rfl,h0,Y,c,u,h⟩:=idxW.out z h;exact IT.nums h0 Y u (.now k h)
 |list l=>exact lst rfl h
 |dict l=>exact dct rfl h
 |loc ad j =>
  unfold subW at h;dsimp only at h
  cases q:slot V j with
  |no=>rw[q]at h;exact h.elim
  |«at» b o =>
   rw[q]at h
   cases o with
   |list l=>obtain⟨rfl,h⟩:=h;exact lst (B1 (Az k q)) h
   |dict l=>obtain⟨rfl,h⟩:=h;exact dct (CV (Az k q)) h
   |_=>exact h.elim
 |_=>exact h.elim
end
end
section
variable {S:Sta}
end
section
variable {S:Sta}{W:Wd}
theorem Sub.trans(a:Sub V s)(b:∀x o,s x=a0 o->t x=a0 o):Sub V t:=λx o h=>b x o (a x o h)
theorem Up.less{K:α->LS->Prop}{v:α}{s t:L0}(h:Up K v s)(b:∀x o,s x=a0 o->t x=a0 o):Up K v t:=by
 obtain⟨V,e,k,q⟩:=h;exact⟨V,e.trans b,k,q⟩
theorem Sub.at(h:Sub V s)(k:okS V)(q:slot V i=.at a o):s a=a0 o:=h _ _ (Az k q)
theorem frW.freshS{K:KV}{mu:Option Nat}{o:Mg}{Y:AV}(k:okS V)(hs:Sub V s)(h:frW mu o Y V K):Fresh s o Y (Up K):=by
 rcases h.fresh k with q|⟨i,q⟩
 .exact .inl (q.less hs)
 .refine .inr ⟨i,λa y=>(q a λd=>y ?_).less λx p e=>?_⟩
  .intro z
   cases e:Av V a with|none=>exact d e|some u=>rw[hs _ _ e]at z;exact nS' z
  .by_cases z:x=a
   .clear y;subst z;rw[L0.set_self]at e ⊢;exact e
   .rw[L0.set_ne _ _ z]at e ⊢;exact hs _ _ e
section
variable {F:Fx S}{m:L4}{V:LS}{X:a8->ag->Prop}{K:KV}
theorem tyW_ok(k:okS V)(h:atW V a (tyW V a=a0 t/\P)):tyA (Av V) a=a0 t/\P:=by
 cases a with
 |loc x i =>
  unfold atW at h;unfold tyA;dsimp only at h ⊢;unfold tyW at h;dsimp only at h
  cases q:slot V i with
  |no=>rw[q]at h;exact h.elim
  |«at» b o =>
   rw[q]at h;obtain⟨rfl,h,p⟩:=h;rw[Az k q];refine⟨?_,p⟩
   cases o<;>exact h
 |_=>exact h
theorem atW.imp(g:P->Q)(h:atW V a P):atW V a Q:=by
 cases a with
 |loc x i =>
  unfold atW at h ⊢;dsimp only at h ⊢
  cases q:slot V i with|no=>rw[q]at h;exact h.elim|«at» b o=>rw[q]at h;exact⟨h.1,g h.2⟩
 |_=>exact g h
set_option tactic.hygienic true in
theorem isiW_ok(G:Good S W)(d:∀i,ex.contains i=a6->W.U i=a6)(k:okS V)(h:isiW ex a c V K):CT F m (Av V) (.builtin "isinstance") [a,c] (Up K) X:=by
 cases c with
 |cls j =>
  have gen:atW V a (match isi? V a j with
   |some b=>K (.bool b) V
   |aa=>False)->CT F m (Av V) (.builtin "isinstance") [a,.cls j] (Up K) X:=λh=>by
   cases z:isi? V a j with
   |none =>
    rw[z]at h;exact(tyW_ok (t:=.none) (P:=False) k (h.imp False.elim)).2.elim
   |some b =>
    rw[z]at h;refine X1pp (AC z) λt ht z=>X1pp (AC z) λu hu e=>An (tyW_ok k (h.imp λp=>⟨ht,p⟩)) λh1 h2=>?_;obtain rfl:=ae e;exact CT.isinst h1 (HE G hu).1 (HE G hu).2 (.now k h2)
  cases a with
  |exc c =>
   unfold isiW at h;dsimp only at h
   split at h
   .rename_i q
    simp only[bc,iI]at q;obtain⟨⟨⟨⟨⟨Y,q2⟩,T⟩,y⟩,q5⟩,q6⟩:=q;exact X5pppp (G.exc _ T y (d _ Y)) λx C bm nid ini hix B O FB=>CT.isx B (G.exk _ C T y (d _ Y) B) (G.sub _ _ T y (d _ Y) q5 q6 (d _ q2)).2 (.now k h)
   .exact h.elim
  |_=>exact gen h
 |_=>exact h.elim
theorem lenW_ok(k:okS V)(h:lenW a V K):CT F m (Av V) (.builtin "len") [a] (Up K) X:=by
 cases a with
 |str x=>exact CT.lenStr h.1 (.now k h.2)
 |tup l=>exact CT.lenTup h.1 (.now k h.2)
 |nums l=>exact CT.lenInts h.1 (.now k h.2)
 |list l=>exact CT.lenList rfl h.1 (.now k h.2)
 |dict l=>exact CT.lenDict rfl h.1 (.now k h.2)
 |loc ad i =>
  unfold lenW at h;dsimp only at h
  cases q:slot V i with
  |no=>rw[q]at h;exact h.elim
  |«at» b o =>
   rw[q]at h
   cases o with|list l=>refine Bo h λu Y z=>?_;subst u;exact CT.lenList (B1 (Az k q)) Y (.now k z)|dict l=>refine Bo h λU Y z=>?_;subst U;exact CT.lenDict (CV (Az k q)) Y (.now k z)|_=>exact h.elim
 |_=>exact h.elim
theorem listW_ok{mu:Option Nat}(hq:q=a6->S.hx=aa)(k:okS V)(h:listW q mu a V K):CT F m (Av V) (.type "list") [a] (Up K) X:=by
 cases a with
 |tup l=>exact CT.listTup h.1 (h.2.fresh k)
 |list l=>exact CT.listList rfl h.1 (h.2.fresh k)
 |dict l=>refine Bo (quiet.out h) λe Y z=>?_;exact CT.listDict (hq e) rfl Y (z.fresh k)
 |loc ad i =>
  unfold listW at h;dsimp only at h
  cases q:slot V i with
  |no=>rw[q]at h;exact h.elim
  |«at» b o =>
   rw[q]at h
   cases o with
   |list l=>refine Bo h λu Y z=>?_;subst u;exact CT.listList (B1 (Az k q)) Y (z.fresh k)
   |dict l=>obtain⟨rfl,h⟩:=h;obtain⟨e,Y,z⟩:=quiet.out h;exact CT.listDict (hq e) (CV (Az k q)) Y (z.fresh k)
   |_=>exact h.elim
 |_=>exact h.elim
theorem ints?_out:∀{y:List AV}{l:List Int},ints? y=a0 l->y=l.map .int
 |[],l,h=>by obtain rfl:=ae h;rfl
 |a::r,l,h=>by
  refine X1pp (AC (show a.int?.bind (λx=>(ints? r).bind λl=>a0 (x::l))=a0 l from h)) λx Y h=>X1pp (AC h) λk z h=>?_
  obtain rfl:=ae h;rw[AV.int?_out Y,ints?_out z];rfl
theorem Kd(k:okS V)(h:Ke avs V K):CT F m (Av V) (.type "range") avs (Up K) X:=by
 unfold Ke at h
 cases q:ints? avs with
 |none=>rw[q]at h;exact h.elim
 |some l =>
  rw[q]at h;rw[ints?_out q]
  cases l with
  |nil=>exact h.elim
  |cons a l =>
   cases l with
   |nil=>exact CT.range1 (.now k h)
   |cons b l =>
    cases l with
    |nil=>exact CT.range2 (.now k h)
    |cons c l =>
     cases l with|nil=>exact CT.range3 h.1 h.2.1 (.now k h.2.2)|cons _ _=>exact h.elim
theorem CF{P:AV->Prop}(h:match avs with | [a]=>P a|_=>False):∃a,avs=[a]/\P a:=by
 cases avs with
 |nil=>exact h.elim
 |cons a r =>
  cases r with|nil=>exact⟨a,rfl,h⟩|cons _ _=>exact h.elim
theorem JL{P:AV->AV->Prop}(h:match avs with | [a,b]=>P a b|_=>False):∃a b,avs=[a,b]/\P a b:=by
 cases avs with
 |nil=>exact h.elim
 |cons a r =>
  cases r with
  |nil=>exact h.elim
  |cons b r =>
   cases r with|nil=>exact⟨a,b,rfl,h⟩|cons _ _=>exact h.elim
def AllTo(P:Nat->Prop):Nat->Prop
 |0=>True
 |n+1=>AllTo P n/\P n
theorem AllTo.get:∀{n:Nat},AllTo P n->i<n->P i
 |0,_,q=>(ej _ q).elim
 |n+1,h,q=>(Nat.lt_or_eq_of_le (Nat.le_of_lt_succ q)).elim (λq=>h.1.get q) λq=>q▸h.2
theorem buW_ok{mu:Option Nat}{u:List AV}(G:Good S W)(hx:∀i,ex.contains i=a6->W.U i=a6)(hq:q=a6->S.hx=aa)(k:okS V)(hi:i<17)(h:buW q ex mu i u V K):CT F m (Av V) (bv i) u (Up K) X:=by
 refine AllTo.get (P:=λi=>∀u,buW q ex mu i u V K->CT F m (Av V) (bv i) u (Up K) X) (n:=17) ⟨⟨⟨⟨⟨⟨⟨⟨⟨⟨⟨⟨⟨⟨⟨⟨⟨trivial,λZ h=>?_⟩,λZ h=>?_⟩,λZ h=>h.elim⟩,λZ h=>h.elim⟩,λZ h=>?_⟩,λZ h=>?_⟩,λZ h=>h.elim⟩,λZ h=>?_⟩,λZ h=>Kd k h⟩,λZ h=>h.elim⟩,λZ h=>h.elim⟩,λZ h=>?_⟩,λZ h=>?_⟩,λZ h=>?_⟩,λZ h=>?_⟩,λZ h=>?_⟩,λZ h=>?_⟩ hi u h
 .refine X1pp (CF h) λa Z0 h=>?_
  subst Z0;exact lenW_ok k h
 .refine X2pp (JL h) λa b Z1 h=>?_
  subst Z1;exact isiW_ok G hx k h
 .exact h.elim
 .refine X1pp (CF h) λa Z2 h=>?_
  subst Z2;exact listW_ok hq k h
 .refine X1pp (CF h) λa Z3 h=>?_
  subst Z3
  rcases h with h|h
  .obtain⟨l,Y,⟨z,h3,T⟩,h⟩:=ddW.out k h
   exact CT.dictCopy Y z h3 T (h.fresh k)
  .refine An (quiet.out h) λe h=>X1pp (dlW.out k h) λZ Y B=>X1ppp B λl Z4 z h=>?_
   clear B;subst Z4;exact CT.dictOf (hq e) Y z.1 z.2 (h.fresh k)
 .refine X1pp (CF h) λa Z5 h=>?_
  subst Z5;exact An (quiet.out h) λe h=>X1lp a (spotW.out h) λp h=>CT.sum2 (hq e) h.1.1 h.1.2 (.now k h.2)
 .refine X1pp (CF h) λa Z6 h=>?_
  subst Z6
  cases a with|int x=>exact CT.abs (.now k h)|_=>exact h.elim
 .refine X2pp (JL h) λa b Z7 h=>?_
  subst Z7;exact An (quiet.out h) λe h=>X2llp a b (int2.out h) λx y h=>CT.min2' (hq e) (.now k h)
 .refine X2pp (JL h) λa b Z8 h=>?_
  subst Z8;exact An (quiet.out h) λe h=>X2llp a b (int2.out h) λx y h=>CT.max2' (hq e) (.now k h)
 .refine X1pp (CF h) λa Z9 h=>?_
  subst Z9;refine An (quiet.out h) λe h=>X1pp (h.out k) λl Y d=>X1pp d λbs Y0 h=>?_;clear d;subst Y0;exact CT.all (hq e) Y (.now k h)
 .refine X1pp (CF h) λa Y1 h=>?_
  subst Y1;refine An (quiet.out h) λe h=>X1pp (h.out k) λl Y O=>X1pp O λbs Y2 h=>?_;clear O;subst Y2;exact CT.any (hq e) Y (.now k h)
end
def Snd(S:Sta)(k:Nat)(fv:a8)(f:FS):Prop:=∀F:Fx S,k<=F.k->∀m mu avs V K X,okS V->G6 f mu avs V K X->CT F m (Av V) fv avs (Up K) (XF F m (Up X))
structure Mf(S:Sta)(W:Wd)(k:Nat)(Φ:Tab):Prop where
 good:Good S W
 q:Φ.q=a6->S.hx=aa
 ex:∀i,Φ.ex.contains i=a6->W.U i=a6
 fn:∀i f,GV Φ.fn i=a0 f->(W.U i=a6/\i≠28)/\Snd S k (S.cv i) f
 me:∀n f,GV Φ.me n=a0 f->∃fa,W.M n=a0 fa/\Snd S k (.ref fa) f
 ky:∀i f,GV Φ.ky i=a0 f->W.U i=a6/\∃fa kf,S.cv i=.ref fa/\kf+2<=k/\∀x,(f x).isSome=a6->KeyT S kf (.ref fa) (Dz f) [x]
set_option tactic.hygienic true in
theorem callW_ok{F:Fx S}{m:L4}{V:LS}{X:XL}{K:KV}{mu:Option Nat}{i:Nat}{y:List AV}(T:Mf S W k Φ)(B:k<=F.k)(o:okS V)(h:callW Φ X mu i y V K) :
  (W.U i=a6/\i≠28)/\CT F m (Av V) (S.cv i) y (Up K) (XF F m (Up X)):=by
 unfold callW at h
 split at h
 .rename_i q
  have q:=eH.mp q;refine⟨⟨T.good.bu i q,λz=>lin [i] [] .no [.c V0 K17,.D (-1) V0 K28] rfl q z⟩,?_⟩;rw[T.good.base i q];exact buW_ok T.good T.ex T.q o q h
 .split at h
  .rename_i f O
   exact⟨(T.fn i f O).1,(T.fn i f O).2 F B m mu y V K X o h⟩
  .exact h.elim
theorem slotL.out(h:slotL V a P):∃x i l,a=.loc x i/\slot V i=.at x (.list l)/\P x i l:=by
 cases a with
 |loc x i =>
  unfold slotL at h;dsimp only at h
  cases q:slot V i with
  |no=>rw[q]at h;exact h.elim
  |«at» b o =>
   rw[q]at h
   cases o with|list l=>refine An h λu h=>?_;subst u;exact⟨_,_,_,rfl,q,h⟩|_=>exact h.elim
 |_=>exact h.elim
theorem obj?_out{s:Slot}{b:bg×Mg}(h:s.obj?=a0 b):s=.at b.1 b.2:=by
 cases s with
 |no=>exact nS h
 |«at» a o=>obtain rfl:=ae h;rfl
theorem Fe{p:(Str×AV)×(Str×AV)}(q:two? l=a0 p)(u:p.1.1 = "texts")(T:p.2.1 = "own"):l=FW p.1.2 p.2.2:=by
 rw[two?_out q];unfold FW;rw[<- u,<- T]
theorem fields?_out{i:Nat}{f:(bg×bg)×bg×List (Str×AV)}(h:fields? V i=a0 f):slot V i=.at f.1.1 (.inst f.1.2)/\slot V (i+1)=.at f.2.1 (.attrs f.2.2):=by
 refine X1pp (AC h) λb T h=>X1pp (AC h) λd z h=>X1pp (AC h) λc Y h=>X1pp (AC h) λl y h=>?_;obtain rfl:=ae h;exact⟨by rw[obj?_out T,Mg.inst?_out z],by rw[obj?_out Y,Mg.attrs?_out y]⟩
theorem instW.out{P:AV->AV->Prop}(k:okS V)(hs:Sub V s)(h:instW V a P):∃t o,Eo s a=a0 (FW t o)/\P t o:=by
 cases a with
 |inst l =>
  have h:(match two? l with
   |some p=>(p.1.1 = "texts"/\p.2.1 = "own")/\P p.1.2 p.2.2
   |aa=>False):=h
  cases q:two? l with|none=>rw[q]at h;exact h.elim|some p=>rw[q]at h;rw[Fe q h.1.1 h.1.2];exact⟨_,_,rfl,h.2⟩
 |loc x i =>
  have h:(match fields? V i with
   |some f=>(match two? f.2.2 with
    |some p=>(f.1.1=x/\f.2.1=f.1.2/\p.1.1 = "texts"/\p.2.1 = "own")/\P p.1.2 p.2.2
    |aa=>False)
   |aa=>False):=h
  cases q:fields? V i with
  |none=>rw[q]at h;exact h.elim
  |some f =>
   rw[q]at h;dsimp only at h
   cases q2:two? f.2.2 with
   |none=>rw[q2]at h;exact h.elim
   |some p =>
    rw[q2]at h;obtain⟨⟨rfl,Y,B,O⟩,d⟩:=h;exact An (fields?_out q) λy T=>⟨_,_,(E7 (hs.at k y) (Y▸hs.at k T)).trans (congrArg a0 (Fe q2 B O)),d⟩
 |_=>exact h.elim
structure Sd(S:Sta)(k:Nat)(e:E)(f:WT)(X:XL):Prop where
 v:∀F:Fx S,k<=F.k->∀mu m V K,okS V->f.v mu m V K->ET F (vr m) (Av V) e (Up K) (XF F (vr m) (Up X))
 t:∀F:Fx S,k<=F.k->∀m V K,okS V->f.t m V K->TT F (vr m) (Av V) e (Up K) (XF F (vr m) (Up X))
class inductive SdL(S:Sta)(k:Nat)(X:XL):List E->List WT->Prop
 |nil:SdL S k X [] []
 |cons {e:E}{f:WT}{es:List E}{fs:List WT}(h:Sd S k e f X)(t:SdL S k X es fs):SdL S k X (e::es) (f::fs)
section
variable {k:Nat}{F:Fx S}{m:M}{X:XL}
theorem Sd.on(d:Sd S k e f X)(B:k<=F.k){mu:Option Nat}{K:KV}{Q:AV->L0->Prop}(o:okS V)(hs:Sub V s)(h:f.v mu m V K)(q:∀a Aa Ac,okS Aa->Sub Aa Ac->K a Aa->Q a Ac):ET F (vr m) s e Q (XF F (vr m) (Up X)) :=
 ET.less hs (ET.mono (d.v F B mu m V K o h) λa Ac z=>by obtain⟨Aa,e,u,z⟩:=z;exact q a Aa Ac u e z)
theorem Sd.onT(d:Sd S k e f X)(B:k<=F.k){K:KB}{Q:Bool->L0->Prop}(o:okS V)(hs:Sub V s)(h:f.t m V K)(q:∀a Aa Ac,okS Aa->Sub Aa Ac->K a Aa->Q a Ac):TT F (vr m) s e Q (XF F (vr m) (Up X)) :=
 TT.less hs (TT.mono (d.t F B m V K o h) λa Ac z=>by obtain⟨Aa,e,u,z⟩:=z;exact q a Aa Ac u e z)
theorem DR(B:k<=F.k){es:List E}{fs:List WT}(d:SdL S k X es fs):∀{V:LS}{s:L0}{K:List AV->LS->Prop}{Q:List AV->L0->Prop},okS V->Sub V s->IZ fs m V K->(∀a Aa Ac,okS Aa->Sub Aa Ac->a.length=es.length->K a Aa->Q a Ac)->EsT F (vr m) s es Q (XF F (vr m) (Up X)):=by
 induction d with|nil=>exact λo hs h q=>EsT.nil (q _ _ _ o hs rfl h)|cons d _ y=>exact λo hs h q=>EsT.cons (d.on B o hs h λa Aa Ac u T Ad=>y u T Ad λl Ab U AF O Y z=>q _ Ab U AF O (congrArg fF Y) z)
theorem J1(B:k<=F.k){K:List AV->LS->Prop}{Q:List AV->L0->Prop}(d:SdL S k X es fs)(o:okS V)(hs:Sub V s)(h:IZ fs m V K)(q:∀a Aa Ac,okS Aa->Sub Aa Ac->K a Aa->Q a Ac):EsT F (vr m) s es Q (XF F (vr m) (Up X)):=DR B d o hs h λa Aa Ac u T Z=>q a Aa Ac u T
theorem Cy(B:k<=F.k){K:List AV->LS->Prop}{Q:List AV->L0->Prop}(d:SdL S k X es fs)(o:okS V)(hs:Sub V s)(h:IZ fs m V K)(q:∀a Aa Ac,okS Aa->Sub Aa Ac->K a Aa->Q a Ac):ArgsT F (vr m) s es Q (XF F (vr m) (Up X)):=by
 induction d using SdL.casesOn with|nil=>exact q _ V s o hs h|cons d t=>exact J1 B (.cons d t) o hs h q
theorem andT_ok(Y:k<=F.k){K:KB}{es:List E}{fs:List WT}(d:SdL S k X es fs):∀{V:LS}{s:L0},okS V->Sub V s->andT fs m V K->AndT F (vr m) (XF F (vr m) (Up X)) (Up K) es s:=by
 induction d with
 |nil=>exact λo hs h=>⟨_,hs,o,h⟩
 |cons d _ y =>
  exact λo hs h=>d.onT Y o hs h λb Aa Ac u T B=>by
   cases b with|true=>exact y u T B|false=>exact⟨Aa,T,u,B⟩
theorem orT_ok(Y:k<=F.k){K:KB}{es:List E}{fs:List WT}(d:SdL S k X es fs):∀{V:LS}{s:L0},okS V->Sub V s->orT fs m V K->OrT F (vr m) (XF F (vr m) (Up X)) (Up K) es s:=by
 induction d with
 |nil=>exact λo hs h=>⟨_,hs,o,h⟩
 |cons d _ y =>
  exact λo hs h=>d.onT Y o hs h λb Aa Ac u T B=>by
   cases b with|true=>exact⟨Aa,T,u,B⟩|false=>exact y u T B
theorem andV_ok(z:k<=F.k){K:KV}{es:List E}{fs:List WT}(d:SdL S k X es fs):∀{V:LS}{s:L0},okS V->Sub V s->andV fs m V K->AndV F (vr m) (XF F (vr m) (Up X)) (Up K) es s:=by
 induction d with
 |nil=>exact λZ Z h=>h
 |cons d t y =>
  induction t using SdL.casesOn with
  |nil=>exact λo hs h=>d.on z o hs h λa Aa Ac u T B=>⟨Aa,T,u,B⟩
  |cons U t =>
   exact λo hs h=>d.on z o hs h λa Aa Ac u T B=>by
    refine X1lp a (boolW.out B) λb B=>⟨b,rfl,?_⟩
    cases b with|true=>exact y u T B|false=>exact⟨Aa,T,u,B⟩
theorem orV_ok(z:k<=F.k){K:KV}{es:List E}{fs:List WT}(d:SdL S k X es fs):∀{V:LS}{s:L0},okS V->Sub V s->orV fs m V K->OrV F (vr m) (XF F (vr m) (Up X)) (Up K) es s:=by
 induction d with
 |nil=>exact λZ Z h=>h
 |cons d t y =>
  induction t using SdL.casesOn with
  |nil=>exact λo hs h=>d.on z o hs h λa Aa Ac u T B=>⟨Aa,T,u,B⟩
  |cons U t =>
   exact λo hs h=>d.on z o hs h λa Aa Ac u T B=>by
    refine X1lp a (boolW.out B) λb B=>⟨b,rfl,?_⟩
    cases b with|true=>exact⟨Aa,T,u,B⟩|false=>exact y u T B
theorem pairW_ok(B:k<=F.k){K:List (AV×AV)->LS->Prop}{Q:List (AV×AV)->L0->Prop}(q:∀a Aa Ac,okS Aa->Sub Aa Ac->K a Aa->Q a Ac){ks:List E}{fs:List WT}(d:SdL S k X ks fs):∀{vs:List E}{y:List WT}{r:List (AV×AV)}{V:LS}{s:L0},SdL S k X vs y->okS V->Sub V s->pairW fs y r m V K->E9 F (vr m) (XF F (vr m) (Up X)) Q ks vs r s:=by
 induction d with
 |nil =>
  intro vs y r V s z o hs h
  induction z using SdL.casesOn with|nil=>exact q r V s o hs h|cons _ _=>exact h.elim
 |cons d _ Y =>
  intro vs y r V s z o hs h
  induction z using SdL.casesOn with|nil=>exact h.elim|cons z t=>exact d.on B o hs h λa Aa Ac u T Ad=>z.on B u T Ad λb Ab Aj AF O U=>Y t AF O U
theorem noUp{m:L4}{e:a8}{s:ag}(x:XF F m (Up BU) e s):False:=by
 obtain⟨T,c,V',Ak,O,d,Y,⟨_,_,_,z⟩⟩:=x;exact z
theorem testW_ok(B:k<=F.k){K:KB}{Q:Bool->L0->Prop}(d:SdL S k BU es fs)(o:okS V)(hs:Sub V s)(h:GW fs m V K)(q:∀a Aa Ac,okS Aa->Sub Aa Ac->K a Aa->Q a Ac):TestT F (vr m) s es Q:=by
 induction d using SdL.casesOn with
 |nil=>exact q _ V s o hs h
 |cons d t =>
  induction t using SdL.casesOn with|nil=>exact(d.onT B o hs h q).monoX λZ Z x=>noUp x|cons _ _=>exact h.elim
end
end
section
variable {S:Sta}{W:Wd}
structure Turn(ok:Option Nat)(okP:L0->L0->Prop)(I:LS->Prop):Prop where
 go:∀{AG:LS}{Ak:L0}{Ab:LS}{Aj:L0}{P:Prop},okS AG->okS Ab->Sub AG Ak->Sub Ab Aj->I AG->stays ok AG Ab P->(okP Ak Aj/\I Ab)/\P
theorem Turn.free(h:∀s t,okP s t):Turn aa okP (λZ=>True):=⟨λZ Z Z Z Z p=>⟨⟨h _ _,trivial⟩,p⟩⟩
theorem Turn.loc:Turn (a0 i) (okL (.loc x j)) (λV=>slot V i=.at x o):=⟨λz O B U e p=>by
 have T:=p.1.trans e;exact⟨⟨(U.at O T).trans (B.at z e).symm,T⟩,p.2⟩⟩
inductive Iters(F:Fx S)(s:L0)(a:AV)(V:LS)(G:KG):Prop
 |mk (items:List AV)(okP:L0->L0->Prop)(ok:Option Nat)(I:LS->Prop)(it:Mn F s a items okP)(tn:Turn ok okP I)(i:I V)(g:G items ok V):Iters F s a V G
theorem H2{F:Fx S}{q:Bool}{a:AV}{V:LS}{s:L0}{G:KG}(hq:q=a6->S.hx=aa)(o:okS V)(hs:Sub V s)(h:iterW q a V G):Iters F s a V G:=by
 cases a with
 |tup l=>refine An (quiet.out h) λe h=>?_;exact⟨_,_,_,_,Mn.tup (hq e),.free λZ Z=>trivial,trivial,h⟩
 |list l=>refine An (quiet.out h) λe h=>?_;exact⟨_,_,_,_,Mn.list (hq e) (dl_list _ _),.free λZ Z=>trivial,trivial,h⟩
 |str x=>refine Bo (quiet.out h) λe Y h=>?_;exact⟨_,_,_,_,Mn.str (hq e) Y,.free λZ Z=>trivial,trivial,h⟩
 |dict l=>refine An (quiet.out h) λe h=>?_;exact⟨_,_,_,_,Mn.dict (hq e),.free λZ Z=>trivial,trivial,h⟩
 |range a b c=>exact⟨_,_,_,_,Mn.range h.1,.free λZ Z=>trivial,trivial,h.2⟩
 |loc x i =>
  unfold iterW at h;dsimp only at h
  cases z:slot V i with
  |no=>rw[z]at h;exact h.elim
  |«at» b p =>
   rw[z]at h
   cases p with
   |list l =>
    obtain⟨rfl,h⟩:=h;obtain⟨e,h⟩:=quiet.out h;exact⟨_,_,_,_,Mn.list (hq e) (B1 (hs.at o z)),.loc,z,h⟩
   |_=>exact h.elim
 |_=>exact h.elim
theorem FN{F:Fx S}{i:Nat}{Y:E}{f:WT}{cs:List E}{fs:List WT}{ok:Option Nat}{T:L0->L0->Prop}{I:LS->Prop}{m:M}{K:List AV->LS->Prop}{Q:List AV->L0->Prop}(d:Sd S k Y f BU)(dt:SdL S k BU cs fs)(B:k<=F.k)(tn:Turn ok T I)(q:∀a Aa Ac,okS Aa->Sub Aa Ac->K a Aa->Q a Ac) :
  ∀{items O:List AV}{V:LS}{s:L0},okS V->Sub V s->I V->Eh i (f.v aa) (GW fs) ok m K items O V->FU F i Y cs T (vr m) Q items O s
 |[],O,V,s,o,hs,_,h=>q _ V s o hs h
 |x::r,O,V,s,o,hs,hi,h=>by
  refine(?_:TestT F ((vr m).set i x) s cs _);rw[<- ED];refine testW_ok B dt o hs h λb Aa Ac Am Af Ad=>?_
  cases b with
  |true =>
   rw[if_pos rfl];refine(d.on B Am Af Ad λy Ab Aj AF Au Ag=>?_).monoX λZ Z x=>noUp x;obtain⟨⟨U,u⟩,z⟩:=tn.go o AF hs Au hi Ag;exact⟨U,FN d dt B tn q AF Au u z⟩
  |false =>
   rw[if_neg (by decide)]
   obtain⟨⟨U,u⟩,z⟩:=tn.go o Am hs Af hi Ad;exact⟨U,FN d dt B tn q Am Af u z⟩
theorem Fresh.mono(h:Fresh V o fz Q)(k:∀a s,Q a s->Q' a s):Fresh V o fz Q':=by
 rcases h with q|⟨i,q⟩
 .exact .inl (k _ _ q)
 .exact .inr ⟨i,λa d=>k _ _ (q a d)⟩
theorem FM{F:Fx S}{m:M}{X:XL}{V:LS}{K:KV}{mu:Option Nat}{Y B:E}{i:Nat}{U:List E}{f g:WT}{fs:List WT}{p:Pat}(T:Mf S W k Φ)(hk:k<=F.k)(ds:Sd S k B g X)(d:Sd S k Y f BU)(dt:SdL S k BU U fs)(o:okS V)(q:∀a s,Up K a s->Q a s)
  (h:g.v aa m V (λa Aa=>iterW Φ.q a Aa (λitems ok Ab=>items.length<=big/\Eh i (f.v aa) (GW fs) ok m (λz u=>frW mu (.list z) (.list z) u K) items [] Ab))) :
  Mo F (vr m) (Av V) p B (λitems O s=>items.length<=big/\∀F':Fx S,F'.tb=F.tb->F'.k=F.k->FU F' i Y U O (vr m) (λz Aj=>Fresh Aj (.list z) (.list z) Q) items [] s) (XF F (vr m) (Up X)) :=
 Mo.val (ds.on hk o Sub.rfl h λa Aa Ac y Af Ad=>by
  obtain⟨items,O,ok,I,it,tn,hi,hz,Ag⟩:=H2 (F:=F) T.q y Af Ad;exact⟨items,O,it,hz,λF' Z e=>FN d dt (by rwa [e]) tn (λz u BR Fm CI AY=>(AY.freshS Fm CI).mono q) y Af hi Ag⟩)
section
variable {k:Nat}{X:XL}{Φ:Tab}
theorem Sd.vt(d:HO e=a6)(h:∀F:Fx S,k<=F.k->∀mu m V K,okS V->f mu m V K->ET F (vr m) (Av V) e (Up K) (XF F (vr m) (Up X))):Sd S k e (vt f) X :=
 ⟨h,λF B m V K o q=>TT.val d (ET.mono (h F B aa m V _ o q) λa s z=>by
  obtain⟨Aa,e,u,z⟩:=z;exact X1lp a (boolW.out z) λb z=>⟨b,rfl,Aa,e,u,z⟩)⟩
theorem Sd.no:Sd S k e ⟨λZ Z Z Z=>False,λZ Z Z=>False⟩ X:=⟨λZ Z Z Z Z Z Z h=>h.elim,λZ Z Z Z Z Z h=>h.elim⟩
set_option tactic.hygienic true in
theorem few.out(h:few l P):l.length<15/\P:=by
 unfold few at h
 split at h
 .rename_i q;exact⟨eH.mp q,h⟩
 .exact h.elim
theorem KL(h:n<15):n<=big:=am (cZ h) (by decide)
theorem tup_ok(d:SdL S k X es fs):Sd S k (.tup es) (Internal.vt λZ m V K=>few es (IZ fs m V (λl V'=>K (.tup l) V'))) X :=
 Sd.vt rfl λF B mu m V K o h=>by
  exact An h.out λU h=>ET.tup (DR B d o Sub.rfl h λa Aa Ac u T Y y=>⟨by rw[Y];exact KL U,Aa,T,u,y⟩)
theorem list_ok(d:SdL S k X es fs):Sd S k (.list es) (Internal.vt λmu m V K=>few es (IZ fs m V (λl V'=>frW mu (.list l) (.list l) V' K))) X :=
 Sd.vt rfl λF B mu m V K o h=>by
  exact An h.out λU h=>ET.list (DR B d o Sub.rfl h λa Aa Ac u T Y y=>⟨by rw[Y];exact KL U,y.freshS u T⟩)
theorem pairsX{X u:a8->ag->Prop}{Q:List (AV×AV)->L0->Prop}(x:∀e s,X e s->u e s):∀{ks vs:List E}{r:List (AV×AV)}{V:L0},E9 F m X Q ks vs r V->E9 F m u Q ks vs r V
 |[],[],_,_,h=>h
 |_::_,_::_,_,_,h=>(ET.monoX h x).mono λa Aa q=>(ET.monoX q x).mono λb z q=>pairsX x q
 |[],_::_,_,_,h=>h.elim
 |_::_,[],_,_,h=>h.elim
set_option tactic.hygienic true in
theorem dict_ok{ks vs:List E}{fs O:List WT}(d:SdL S k BU ks fs)(Y:SdL S k BU vs O):Sd S k (.dict ks vs) (Internal.vt λmu m V K=>(match cr ks.length vs.length && gU ks.length 15 with
  |true=>pairW fs O [] m V (λps V'=>dictW mu ps V' K)
  |false=>False)) X :=
 Sd.vt rfl λF hk mu m V K o h=>by
  split at h
  .rename_i q
   refine An (aO.mp q) λy U=>?_;have y:=bP y;have U:=eH.mp U;have fin:∀{F':Fx S}(ps:List (AV×AV))(Aa:LS)(Ac:L0),okS Aa->Sub Aa Ac->dictW mu ps Aa K->∃l,mkD ps []=a0 l/\ps.length<=15/\Fresh Ac (.dict l) (.dict l) (Up K):=λ{F'} ps Aa Ac u T B=>by
    unfold dictW at B
    split at B
    .rename_i z
     split at B
     .rename_i l e;exact⟨l,e,iI.mp z,B.freshS u T⟩
     .exact B.elim
    .exact B.elim
   induction d using SdL.casesOn with
   |nil =>
    induction Y using SdL.casesOn with
    |nil =>
     refine X1ppp (fin (F':=F) [] V (Av V) o Sub.rfl h) λl e Z hf=>?_;obtain rfl:=ae e;exact ET.dict0 hf
    |cons _ _=>cases y
   |cons d t =>
    induction Y using SdL.casesOn with
    |nil=>cases y
    |cons Y t' =>
     exact(ET.dict (X:=NoX) (fA y) (Nat.lt_of_succ_lt U) λF' lk=>(pairsX (λZ Z x=>noUp x) (pairW_ok (F:=F') (by rwa [lk.2.2.2]) (λps Aa Ac u T B=>fin (F':=F') ps Aa Ac u T B) (.cons d t) (.cons Y t') o Sub.rfl h))).monoX λZ Z z=>z.elim
  .exact h.elim
theorem bin_ok(d:Sd S k l f X)(T:Sd S k r g X)(Y:∀n:Int,r=.int n->g=Internal.vt λZ Z V K=>K (.int n) V):Sd S k (.bin op l r) (Internal.vt λmu m V K=>f.v aa m V (λa Aa=>g.v aa m Aa (λb Ab=>binW (lit r) mu op a b Ab K))) X :=
 Sd.vt rfl λF O mu m V K o h=>ET.bin (d.on O o Sub.rfl h λa Aa Ac u U B=>by
  by_cases q:lit r=a6
  .refine X1pp (lit_pos q) λn e hn=>?_
   rw[Y _ e]at B;clear T Y h q;subst e;exact ET.int (BT.less U (L6 u (λZ y e=>by cases e;exact⟨λz0=>lin [n] [] .no [.h (.c (.A V0 K1)) K0] rfl z0,by omega⟩) B))
  .exact T.on O u U B λb Ab Aj AF Au Ag=>BT.less Au (L6 AF (λz=>absurd z q) Ag))
theorem sub_ok(d:Sd S k l f X)(Y:Sd S k r g X)(T:∀n:Int,r=.int n->g=Internal.vt λZ Z V K=>K (.int n) V):Sd S k (.sub l r) (Internal.vt λZ m V K=>f.v aa m V (λa Aa=>g.v aa m Aa (λb O=>subW (lit0 r) a b O K))) X :=
 Sd.vt rfl λF y mu m V K o h=>ET.sub (d.on y o Sub.rfl h λa Aa Ac u U B=>by
  by_cases q:lit0 r=a6
  .refine X1pp (lit0_pos q) λn e hn=>?_
   rw[T _ e]at B;clear Y T h q;subst e;exact ET.int (IT.less U (JQ (λZ=>⟨n,rfl,hn⟩) u B))
  .exact Y.on y u U B λb O Aj AF Au Ag=>IT.less Au (JQ (λz=>absurd z q) AF Ag))
theorem neg_ok(d:Sd S k x f X):Sd S k (.neg x) (Internal.vt λZ m V K=>f.v aa m V (λa Aa=>match a with
  |.int i=>K (.int (-i)) Aa
  |_=>False)) X :=
 Sd.vt rfl λF y mu m V K o h=>ET.neg (d.on y o Sub.rfl h λa Aa Ac u T B=>by
  cases a with|int i=>exact⟨i,rfl,Aa,T,u,B⟩|_=>exact B.elim)
theorem not_ok(d:Sd S k x f X):Sd S k (.not x) ⟨λZ m V K=>f.v aa m V (λa Aa=>boolW a λb=>K (.bool (!b)) Aa),λm V K=>f.t m V (λb Aa=>K (!b) Aa)⟩ X :=
 ⟨λF y mu m V K o h=>ET.not (d.on y o Sub.rfl h λa Aa Ac u T B=>by
  exact X1lp a (boolW.out B) λb B=>⟨b,rfl,Aa,T,u,B⟩),λF y m V K o h=>TT.not (d.onT y o Sub.rfl h λa Aa Ac u T B=>⟨Aa,T,u,B⟩)⟩
theorem KT.mono{X:a8->ag->Prop}{op:CmpOp}{a b:AV}{Q z:Bool->L0->Prop}(h:KT F m V op a b Q X)(k:∀b V,Q b V->z b V):KT F m V op a b z X :=
 λY y s hs u O=>(h Y y s hs u O).mono λ_ _ _ _ _ ⟨c,e,q⟩=>⟨c,e,k _ _ q⟩
theorem cmp_ok{op:CmpOp}{l r:E}{f g:WT}(d:Sd S k l f X)(d':Sd S k r g X):Sd S k (.cmp op l r) ⟨λZ m V K=>f.v aa m V (λa Aa=>g.v aa m Aa (λb B=>cmpW op a b B λt=>K (.bool t) B)),
   λm V K=>f.v aa m V (λa Aa=>g.v aa m Aa (λb B=>cmpW op a b B λt=>K t B))⟩ X :=
 ⟨λF y mu m V K o h=>ET.cmp (d.on y o Sub.rfl h λa Aa Ac u T Y=>d'.on y u T Y λb B Aj AF O U=>KT.mono (KT.less O (FP (K:=λt V=>K (.bool t) V) AF U)) λt BR z=>by obtain⟨As,CI,Fm,z⟩:=z;exact⟨As,CI,Fm,z⟩),
 λF y m V K o h=>TT.cmp (d.on y o Sub.rfl h λa Aa Ac u T Y=>d'.on y u T Y λb B Aj AF O U=>KT.less O (FP AF U))⟩
theorem cmp2_ok{u B:CmpOp}{a b c:E}{f g h:WT}(d:Sd S k a f X)(d':Sd S k b g X)(d2:Sd S k c h X):Sd S k (.cmp2 u B a b c) ⟨λZ Z Z Z=>False,λm V K=>f.v aa m V (λx Aa=>g.v aa m Aa (λy U=>cmpW u x y U λt=>ifW t (h.v aa m U (λz O=>cmpW B y z O λt=>K t O)) (K a7 U)))⟩ X :=
 ⟨λZ Z Z Z Z Z Z h=>h.elim,λF T m V K o q=>TT.cmp2 (d.on T o Sub.rfl q λx Aa Ac Am Af Ad=>d'.on T Am Af Ad λy U Aj AF Au Ag =>
  KT.mono (KT.less Au (FP (K:=λt U=>ifW t (h.v aa m U (λz O=>cmpW B y z O λt=>K t O)) (K a7 U)) AF Ag)) λt BR z=>by
    obtain⟨O,CI,Y,z⟩:=z
    cases t with|true=>exact d2.on T Y CI z λz Dl BQ Kl Gi BA=>KT.less Gi (FP Kl BA)|false=>exact⟨O,CI,Y,z⟩)⟩
theorem ite_ok{c a b:E}{f g h:WT}(d:Sd S k c f X)(d':Sd S k a g X)(d2:Sd S k b h X):Sd S k (.ite c a b) ⟨λmu m V K=>f.t m V (λt Aa=>ifW t (g.v mu m Aa K) (h.v mu m Aa K)),λZ Z Z=>False⟩ X :=
 ⟨λF B mu m V K o q=>ET.ite (d.onT B o Sub.rfl q λt Aa Ac u T y=>by
  cases t with|true=>exact d'.on B u T y λa z Aj Y O U=>⟨z,O,Y,U⟩|false=>exact d2.on B u T y λa z Aj Y O U=>⟨z,O,Y,U⟩),λZ Z Z Z Z Z h=>h.elim⟩
theorem fget_t:Ls (FW t o) "texts"=a0 t:=by
 have e:(("texts":Str) == "texts")=a6:=by decide +kernel
 simp only[Ls,FW,dD,e,ef]
theorem fget_o:Ls (FW t o) "own"=a0 o:=by
 have e:(("texts":Str) == "own")=a7:=by decide +kernel
 have y:(("own":Str) == "own")=a6:=by decide +kernel
 simp only[Ls,FW,dD,e,y,ef]
set_option tactic.hygienic true in
theorem attr_ok(T:Mf S W k Φ):Sd S k (.attr (.v i) n) (Internal.vt λZ m V K=>match m.getD i aa with
  |some a=>attrW n a V K
  |aa=>False) X :=
 Sd.vt rfl λF B mu m V K o h=>by
  split at h
  .rename_i a ha
   refine X2pp (instW.out o Sub.rfl h) λt O Y h=>?_
   split at h
   .exact ET.attr T.good.floor T.good.texts (Lq (.inl rfl)) ha Y fget_t h.1 (.now o h.2)
   .exact ET.attr T.good.floor T.good.cells (Lq (.inr rfl)) ha Y fget_o h.1 (.now o h.2)
   .exact h.elim
  .exact h.elim
theorem hasF_ok(T:Mf S W k Φ)(h:hasF Φ i=a6):W.U i=a6/\i≠28:=by
 rcases di.mp h with q|q
 .have q:=eH.mp q;exact⟨T.good.bu i q,λz=>lin [i] [] .no [.c V0 K17,.D (-1) V0 K28] rfl q z⟩
 .refine X1p (bj.mp q) λf O=>?_;exact(T.fn i f O).1
set_option tactic.hygienic true in
theorem call_ok(T:Mf S W k Φ)(d:SdL S k X (e::es) fs):Sd S k (.call (.g i) (e::es)) (Internal.vt λmu m V K=>(match hasF Φ i with
  |true=>IZ fs m V (λy Aa=>callW Φ X mu i y Aa K)
  |false=>False)) X :=
 Sd.vt rfl λF B mu m V K o h=>by
  split at h
  .rename_i q
   exact An (hasF_ok T q) λY z=>ET.callg (T.good.glob i Y) (LT T.good Y z) (J1 B d o Sub.rfl h λa Aa Ac u U O=>CT.less U (callW_ok T B u O).2)
  .exact h.elim
theorem dd_more(h:dd (Av V) a=a0 l)(hs:Sub V s):dd s a=a0 l:=by
 cases a with
 |dict l'=>exact h
 |loc x i =>
  refine X1pp (AC (show (Av V x).bind _=a0 l from h)) λo Y z=>?_
  show (s x).bind _=a0 l
  rwa [hs _ _ Y]
 |_=>exact(Al rfl h).elim
theorem JK(h:dd s a=a0 l):tyA s a=a0 .dict:=by
 cases a with
 |dict l'=>rfl
 |loc x i =>
  refine X1pp (AC (show (s x).bind _=a0 l from h)) λo Y z=>?_
  unfold tyA;dsimp only;rw[Y]
  cases o with|dict l'=>rfl|_=>exact(Al rfl z).elim
 |_=>exact(Al rfl h).elim
theorem slotD.out(h:slotD V a P):∃x i l,a=.loc x i/\slot V i=.at x (.dict l)/\P x i l:=by
 cases a with
 |loc x i =>
  unfold slotD at h;dsimp only at h
  cases q:slot V i with
  |no=>rw[q]at h;exact h.elim
  |«at» b o =>
   rw[q]at h
   cases o with
   |dict l=>obtain⟨rfl,h⟩:=h;exact⟨_,_,_,rfl,q,h⟩
   |_=>exact h.elim
 |_=>exact h.elim
structure MC(S:Sta)(k:Nat)(X:XL)(es:List E)(fs:List WT)(F:Fx S):Prop where
 d:SdL S k X es fs
 hk:k<=F.k
inductive MOk(S:Sta)(k n:Nat):Prop
 |mk (nm:Str)(h:ixS AT nm=a0 n)(r:∀{X:XL}{es:List E}{fs:List WT}{F:Fx S},MC S k X es fs F->∀{m:M}{V:LS}{s:L0}{a:AV}{K:KV},okS V->Sub V s->bmW n fs m a V K->∃t id,Meth nm (Ty.name t) id/\tyA s a=a0 t/\ArgsT F (vr m) s es (λavs Ab=>CT F (vr m) Ab (.builtin id) (a::avs) (Up K) (XF F (vr m) (Up X))) (XF F (vr m) (Up X))):MOk S k n
theorem GU(o:okS V)(hs:Sub V s)(z:slot V i=.at x (.list l)):tyA s (.loc x i)=a0 .list:=by
 unfold tyA;dsimp only;rw[hs.at o z]
theorem MOk.lst{U:String}(Y:ixS AT nm=a0 n)(O:Meth nm (Ty.name .list) U)(h0:∀{fs:List WT}{m:M}{a:AV}{V:LS}{K:KV},bmW n fs m a V K->slotL V a λZ Z Z=>IZ fs m V (λy T=>methW n a y T K))
  (u:∀{F:Fx S}{m:L4}{X:a8->ag->Prop}{a:AV}{y:List AV}{V:LS}{K:KV},okS V->methW n a y V K->CT F m (Av V) (.builtin U) (a::y) (Up K) X):MOk S k n :=
 ⟨nm,Y,λc m V s a K o hs h=>by
  refine X3ppp (slotL.out (h0 h)) λx i l B z h=>?_;subst B;exact⟨.list,U,O,GU o hs z,Cy c.hk c.d o hs h λy T Aj AF Au Ag=>CT.less Au (u AF Ag)⟩⟩
theorem m0_ok:MOk S k 0:=.lst KY Hb (λh=>h) λo h=>by
 refine X1pp (CF h) λx U h=>?_;subst U;refine X3pppp (slotL.out h) λad i l u z T O=>?_;clear h;subst u;exact CT.append (Az o z) T (.upd o z O)
theorem m1_ok:MOk S k 1:=⟨_,ix_pop,λc m V s a K o hs h=>by
 obtain⟨d,B⟩:=c
 induction d using SdL.casesOn with
 |nil =>
  refine X3ppp (slotL.out h) λad i l Z0 z h=>?_;subst Z0;refine X3pppp (slotL.out (show slotL V (.loc ad i) (λad i l=>l.length<=big/\∃x,l.getLast?=a0 x/\K x (V.set i (.at ad (.list l.dropLast)))) from h)) λZ Z l e z T Z3=>X1pp Z3 λx y u=>?_
  cases e
  exact⟨.list,_,meth_pop,GU o hs z,CT.less hs (CT.pop (Az o z) y T (.upd o z u))⟩
 |cons d t =>
  induction t using SdL.casesOn with
  |nil =>
   refine X3ppp (slotD.out h) λad i l Z1 z h=>?_;subst Z1;refine⟨.dict,_,KD,JK (CV (hs.at o z)),EsT.cons (d.on B o hs h λk Ab Aj Y Au U=>EsT.nil (CT.less Au (X1pp (spotW.out U) λkk Z2 AY=>?_)))⟩;clear U;subst Z2;refine X3pppp (slotD.out AY) λZ Z l e z hz Z4=>X2pp Z4 λj v O BA=>?_
   cases e
   exact CT.popD (Az Y z) hz O (.upd Y z BA)
  |cons _ _=>exact h.elim⟩
theorem m3_ok:MOk S k 3:=⟨_,ix_clear,λc m V s a K o hs h=>by
 obtain⟨d,_⟩:=c
 induction d using SdL.casesOn with
 |nil =>
  exact X3lpp a (slotL.out h) λx i l z q=>⟨.list,_,Jf,GU o hs z,CT.less hs (CT.clear (Az o z) q.1 (.upd o z q.2))⟩
 |cons _ _=>exact h.elim⟩
theorem m6_ok:MOk S k 6:=⟨_,ix_get,λc m V s a K o hs h=>by
 refine X1pp (ddW.out o h) λl T h=>?_;refine⟨.dict,_,meth_get,JK (dd_more T hs),Cy c.hk c.d o hs h λy u z Y B U=>CT.less B ?_⟩
 match y,U with
 |[b],U =>
  exact X1pp (ddW.out Y U) λl O U=>X1lp b (spotW.out U) λkk U=>CT.get O (.now Y U)
 |[b,x],U =>
  exact X1pp (ddW.out Y U) λl O U=>X1lp b (spotW.out U) λkk U=>CT.get2 O (.now Y U)
 |[],U=>exact U.elim
 |_::_::_::_,U=>exact U.elim⟩
theorem m8_ok:MOk S k 8:=⟨_,ix_join,λc m V s a K o hs h=>by
 cases a with
 |str x =>
  refine⟨.str,_,KF,rfl,Cy c.hk c.d o hs h λy Ab Aj Y Au U=>CT.less Au (X1lp y (CF U) λb U=>(X1pp (dlW.out Y U) λl T z=>(X1ppp z λys B O u=>?_)))⟩;clear z;subst B;exact CT.join T O (.now Y u)
 |_=>exact h.elim⟩
theorem isMe_ok(h:isMe n=a6):MOk S k n:=by
 match n,h with
 |0,_=>exact m0_ok
 |1,_=>exact m1_ok
 |3,_=>exact m3_ok
 |6,_=>exact m6_ok
 |8,_=>exact m8_ok
theorem flds_in(h:p∈FW t o):p.1 = "texts"\/p.1 = "own":=by
 refine KI p h ?_ λh=>?_
 .exact .inl rfl
 .exact KI p h (.inr rfl) λh=>nM h
theorem meth_ok(T:Mf S W k Φ)(d:Sd S k e f X)(d':SdL S k X es fs):Sd S k (.meth e n es) (Internal.vt λmu m V K=>ifW (isMe n) (f.v aa m V (λa Aa=>bmW n fs m a Aa K)) (omW (GV Φ.me n) f fs mu X m V K)) X :=
 Sd.vt rfl λF B mu m V K o h=>by
  cases q:isMe n with
  |true =>
   rw[q]at h;obtain⟨nm,h1,r⟩:=isMe_ok (S:=S) (k:=k) q;exact ET.meth h1 (d.on B o Sub.rfl h λa Aa Ac U Y u=>r ⟨d',B⟩ U Y u)
  |false =>
   rw[q]at h
   cases hf:GV Φ.me n with
   |none=>rw[hf]at h;exact h.elim
   |some f' =>
    rw[hf]at h;exact X1pp (T.me n f' hf) λfa hfa z=>X1pppppp (T.good.meth n fa hfa) λnm hn n1 n2 y ht O=>ET.method T.good.floor hn y ht O (d.on B o Sub.rfl h λa Aa Ac U Y u=>(X2pp (instW.out U Y u) λt ow h5 u=>⟨⟨_,h5,Lr (λp hp=>flds_in hp) n1 n2⟩,Cy B d' U Y u λavs Ab Aj AF Au Ag=>CT.less Au (X2pp (instW.out AF Au Ag) λZ Z Z Ag=>(z F B (vr m) mu _ Ab K X AF Ag))⟩))
theorem comp_ok{Y B:E}{i:Nat}{U:List E}{f g:WT}{fs:List WT}(T:Mf S W k Φ)(ds:Sd S k B g X)(d:Sd S k Y f BU)(u:SdL S k BU U fs):Sd S k (.comp Y i B U) (Internal.vt λmu m V K=>g.v aa m V (λa Aa=>iterW Φ.q a Aa (λitems ok Ab=>items.length<=big/\Eh i (f.v aa) (GW fs) ok m (λO As=>frW mu (.list O) (.list O) As K) items [] Ab))) X :=
 Sd.vt rfl λF y mu m V K o h=>ET.comp (FM T y ds d u o (λZ Z z=>z) h)
set_option tactic.hygienic true in
theorem v_ok{i:Nat}:Sd S k (.v i) (Internal.vt λZ m V K=>match m.getD i aa with
  |some a=>K a V
  |aa=>False) X :=
 Sd.vt rfl λF B mu m V K o h=>by
  split at h
  .rename_i a ha;exact ET.v ha (.now o h)
  .exact h.elim
set_option tactic.hygienic true in
theorem g_ok{i:Nat}(T:Mf S W k Φ):Sd S k (.g i) (Internal.vt λZ Z V K=>gW Φ i V K) X :=
 Sd.vt rfl λF B mu m V K o h=>by
  unfold gW at h
  split at h
  .rename_i q
   have q:=bP q;subst q
   split at h
   .rename_i z
    refine X1p T.good.six λt e=>?_;have d:=T.good.glob 28 (T.ex 28 z);rw[e]at d;exact ET.g_int d (.now o h)
   .exact h.elim
  .split at h
   .rename_i q
    have y:W.U i=a6:=by
     rcases di.mp q with q|q
     .exact T.good.bu i (eH.mp q)
     .exact T.ex i q
    exact ET.cls (T.good.glob i y) (.now o h)
   .exact h.elim
set_option tactic.hygienic true in
theorem JV{x:E}(T:Mf S W k Φ)(d:Sd S k x g X):Sd S k (.sorted x (.g i)) (Internal.vt λmu m V K=>match GV Φ.ky i with
  |some f=>g.v aa m V (λa Aa=>dlW Aa a λL=>sortW f mu L Aa K)
  |aa=>False) X :=
 Sd.vt rfl λF U mu m V K o h=>by
  split at h
  .rename_i f hf
   refine An (T.ky i f hf) λhu Z0=>X2ppp Z0 λfa kf e O Y=>?_;have u:=T.good.glob i hu;rw[e]at u;have B:=T.good.glob 10 (T.good.bu 10 (by decide))
   rw[T.good.base 10 (by decide)]at B
   refine ET.sorted (key:=Dz f) u B (am O U) (d.on U o Sub.rfl h λa Aa Ac y z Ad=>?_);obtain⟨L,hl,⟨h1,h2,h3⟩,h4⟩:=dlW.out y Ad;exact⟨L,LJ hl z,λx hx=>Y x (h1 x hx) x (.head _),h2,h3,λL' p1 p2=>(frW.freshS y z (h4 L' ⟨p1,p2⟩))⟩
  .exact h.elim
mutual
theorem AN(T:Mf S W k Φ):∀(e:E)(X:XL),Sd S k e (wp Φ e X) X
 |.none,X=>Sd.vt rfl λF B mu m V K o h=>ET.none (.now o h)
 |.bool b,X=>Sd.vt rfl λF B mu m V K o h=>ET.bool (.now o h)
 |.int b,X=>Sd.vt rfl λF B mu m V K o h=>ET.int (.now o h)
 |.str b,X=>Sd.vt rfl λF B mu m V K o h=>ET.str (.now o h)
 |.v i,X=>v_ok
 |.g i,X=>g_ok T
 |.tup es,X=>tup_ok (BB T es X)
 |.list es,X=>list_ok (BB T es X)
 |.dict ks vs,X=>dict_ok (BB T ks BU) (BB T vs BU)
 |.bin op l r,X=>bin_ok (AN T l X) (AN T r X) λn e=>by rw[e];rfl
 |.neg x,X=>neg_ok (AN T x X)
 |.not x,X=>not_ok (AN T x X)
 |.and es,X=>⟨λF B mu m V K o h=>ET.and (andV_ok B (BB T es X) o Sub.rfl h),λF B m V K o h=>TT.and (andT_ok B (BB T es X) o Sub.rfl h)⟩
 |.or es,X=>⟨λF B mu m V K o h=>ET.or (orV_ok B (BB T es X) o Sub.rfl h),λF B m V K o h=>TT.or (orT_ok B (BB T es X) o Sub.rfl h)⟩
 |.cmp op l r,X=>cmp_ok (AN T l X) (AN T r X)
 |.cmp2 _ _ a b c,X=>cmp2_ok (AN T a X) (AN T b X) (AN T c X)
 |.ite c a b,X=>ite_ok (AN T c X) (AN T a X) (AN T b X)
 |.sub l r,X=>sub_ok (AN T l X) (AN T r X) λn e=>by rw[e];rfl
 |.attr o n,X=>by
  cases o<;>first|exact Sd.no|exact attr_ok T
 |.call f es,X=>by
  cases f<;>first|exact Sd.no|(cases es<;>first|exact Sd.no|exact call_ok T (.cons (AN T _ X) (BB T _ X)))
 |.sorted x f,X=>by
  cases f<;>first|exact Sd.no|exact JV T (AN T x X)
 |.meth o n es,X=>meth_ok T (AN T o X) (BB T es X)
 |.comp u i Y U,X=>comp_ok T (AN T Y X) (AN T u BU) (BB T U BU)
 |.mu l e,X=>⟨λF B mu m V K o h=>ET.mu ((AN T e X).v F B (a0 l) m V K o h),λF B m V K o h=>TT.mu ((AN T e X).t F B m V K o h)⟩
theorem BB(T:Mf S W k Φ):∀(es:List E)(X:XL),SdL S k X es (wpL Φ es X)
 |[],_=>.nil
 |e::es,X=>.cons (AN T e X) (BB T es X)
end
end
end
section
variable {S:Sta}{W:Wd}
theorem ST.raise{F:Fx S}{m:L4}{V:L0}{K:Fl->L4->L0->Prop}{X:KX}{i:Nat}{t:Str}(G:Good S W)(hu:W.U i=a6)(h1:18<=i)(h2:i<=27)(hq:S.hx=aa)(hX:X i V):ST F m V (.raise (.call (.g i) [.str t])) K (XR F X):=by
 refine X5pppp (G.exc i h1 h2 hu) λx C bm nid ini hix B O FB=>X6p O.obj λtl N nm qn bs hdct Z3=>X6p Z3 λsn sub ab col dd k0 Z4=>X5pppp Z4 λk1 k2 k3 k5 mN hC hN z T=>?_;have h':EsT F m V [.str t] (λl V'=>l.length=1/\V'=V) (XR F X):=EsT.cons (ET.str (EsT.nil ⟨rfl,rfl⟩));refine λst hc s hs=>X2pp hc.inv λZ Z Z0 he=>?_;clear hc;subst Z0;refine X4pppp he.inv λx' q u p' Z1 Z hx ha=>?_;subst Z1;have y:=h' _ p' ha s hs;refine X2pppp ha.inv λZ Z Z2 hn Z Z=>?_;subst Z2
 refine wpAny_Raise_call_subT (C:=C) (nm:=nm) (q:=qn) (N:=N) (bs:=bs) (bm:=tl) (hdct:=hdct) (sn:=sn) (sub:=sub) (ab:=ab) (col:=col) (dd:=dd) (k0:=k0) (k1:=k1) (k2:=k2) (k3:=k3) (k5:=k5)
  FB (mN:=mN) (T.hasType FB.hasBase) (F.room.quiet hq) (G9 ha) z (Dp hx (G.glob i hu) hs ⟨B,?_⟩)
 rw[AW hn]at y ⊢;refine Calls.evalArgs_plain (Internal.W.out y ?_);intro vals V' s' st' Y d;obtain⟨avs,r,hl,rfl⟩:=d;exact⟨rfl,by have:=r.length;show vals.length<=_;rw[this,hl];decide,Y.inv.keep _ _ hC,hN.keeps Y.inv.keep,T.keeps Y.inv.keep,λhh e hm=>⟨e,i,_,s',m,rfl,Y,hX,.inr ⟨_,by rwa [B],rfl,rfl,rfl⟩⟩⟩
structure Xo(F:Fx S)(X:XL)(Y:a8->ag->Prop):Prop where
 up:∀e s,XR F (Up X) e s->Y e s
 pass:iq (model S.prog S.w) F.A F.env Y
theorem Xo.xf(x:Xo F X Y)(e:a8)(s:ag)(h:XF F m (Up X) e s):Y e s:=x.up e s h.up
def SdS(S:Sta)(k:Nat)(st:Internal.S)(f:M->LS->KS->Prop)(X:XL):Prop:=∀F:Fx S,k<=F.k->∀Y,Xo F X Y->∀m V K,okS V->f m V K->ST F (vr m) (Av V) st (UpS K) Y
def SdSs(S:Sta)(k:Nat)(ss:List Internal.S)(f:M->LS->KS->Prop)(X:XL):Prop:=∀F:Fx S,k<=F.k->∀Y,Xo F X Y->∀m V K,okS V->f m V K->SsT F (vr m) (Av V) ss (UpS K) Y
theorem Sub.set(k:okS V)(h:Sub V s)(q:slot V i=.at a o):okS (V.set i (.at a p))/\Sub (V.set i (.at a p)) (s.set a p):=by
 have f:Fits V i (.at a p):=λZ Z e=>by cases e;exact .inr ⟨o,q⟩
 refine⟨DQ k f,λb r e=>?_⟩
 have:=Fh k f b r e
 by_cases z:b=a
 .clear q f e;subst z;rw[L0.set_self]at this ⊢;exact this
 .rw[L0.set_ne _ _ z]at this ⊢;exact h _ _ this
inductive PatK(s:L0)(K:M->Prop)(m':L4)(s':L0):Prop
 |mk (m:M)(em:m'=vr m)(es:s'=s)(h:K m):PatK s K m' s'
set_option tactic.hygienic true in
mutual
theorem G3{F:Fx S}{q:Bool}{Y:a8->ag->Prop}{s:L0}(hq:q=a6->S.hx=aa):∀{p:Pat}{a:AV}{m:M}{K:M->Prop},patW q p a m K->PT F (vr m) s p a (PatK s K) Y
 |.v i,a,m,K,h=>PT.v ⟨_,(ED m i a).symm,rfl,h⟩
 |.tup ps,a,m,K,h=>by
  refine An (quiet.out h) λe h=>?_
  cases a with
  |tup l =>
   dsimp only at h
   split at h
   .rename_i z;exact PT.tup (hq e) (bP z) (HP hq h)
   .exact h.elim
  |_=>exact h.elim
theorem HP{F:Fx S}{q:Bool}{Y:a8->ag->Prop}{s:L0}(hq:q=a6->S.hx=aa):∀{ps:List Pat}{l:List AV}{m:M}{K:M->Prop},patsW q ps l m K->PTs F Y (PatK s K) ps l (vr m) s
 |[],[],m,K,h=>⟨m,rfl,rfl,h⟩
 |p::ps,a::as,m,K,h=>λpe d v u hs r=>aU (G3 hq h pe d v u hs r) (λ_ u' ⟨m',s',st,h',⟨mm,em,es,q⟩⟩=>by
   subst em;clear hs r;subst es;exact⟨_,_,st,h',HP hq q⟩) λZ Z e=>e
 |[],_::_,_,_,h=>h.elim
 |_::_,[],_,_,h=>h.elim
end
theorem SsT.less{K:Fl->L4->L0->Prop}{Y:a8->ag->Prop}(hs:Sub V s)(h:SsT F m (Av V) ss K Y):SsT F m s ss K Y:=h.weak (λZ Z e=>e) hs
theorem D6{F:Fx S}{q:Bool}{p:Pat}{body:List Internal.S}{f:M->LS->KS->Prop}{X:XL}{Y:a8->ag->Prop}{ok:Option Nat}{T:L0->L0->Prop}{I:LS->Prop}{K:KS}(hq:q=a6->S.hx=aa)(d:SdSs S k body f X)(hk:k<=F.k)(hY:Xo F X Y)(tn:Turn ok T I) :
  ∀{items:List AV}{m:M}{V:LS}{s:L0},okS V->Sub V s->I V->Jm q p f ok K items m V->Mc F p body T (UpS K) Y items (vr m) s
 |[],m,V,s,o,hs,_,h=>⟨m,V,rfl,hs,o,h⟩
 |x::r,m,V,s,o,hs,hi,h=>by
  refine λpe hc v u hu rx=>aU (G3 (Y:=Y) hq h pe hc v u hu rx) ?_ λZ Z e=>e;intro _ u' U;obtain⟨m',s',st,h',⟨mm,em,es,Ad⟩⟩:=U;subst em;clear hu rx;subst es;refine⟨_,_,st,h',SsT.mono (SsT.less hs (d F hk Y hY mm V _ o Ad)) λfl Ar Aj z=>?_⟩;obtain⟨m2,Ab,O,y,B,z⟩:=z;subst O
  cases fl with
  |next =>
   obtain⟨⟨h3,h4⟩,h5⟩:=tn.go o B hs y hi z;exact⟨h3,D6 hq d hk hY tn B y h4 h5⟩
  |ret v=>exact⟨m2,Ab,rfl,y,B,z⟩
section
variable {k:Nat}{X:XL}{Φ:Tab}
theorem for_ok(T:Mf S W k Φ)(d:Sd S k e f X)(y:SdSs S k body g X)(F:Fx S)(U:k<=F.k)(Y:a8->ag->Prop)(B:Xo F X Y)(m:M)(V:LS)(K:KS)(o:okS V)
  (h:f.v aa m V (λa Aa=>iterW Φ.q a Aa (λitems ok Ab=>Jm Φ.q p g ok K items m Ab))):ST F (vr m) (Av V) (.for_ p e body) (UpS K) Y :=
 ST.for_ B.pass (Mo.val ((d.on U o Sub.rfl h λa Aa Ac u z Ad=>by
  obtain⟨items,O,ok,I,it,tn,hi,Ag⟩:=H2 (F:=F) T.q u z Ad;exact⟨items,O,it,D6 T.q y U B tn u z hi Ag⟩).monoX B.xf))
theorem enum_ok(T:Mf S W k Φ)(d:Sd S k e f X)(d':SdSs S k body g X)(F:Fx S)(O:k<=F.k)(Y:a8->ag->Prop)(y:Xo F X Y)(m:M)(V:LS)(K:KS)(o:okS V)
  (h:f.v aa m V (λa Aa=>enumW Φ.q a Aa (λitems ok Ab=>Jm Φ.q (.tup ps) g ok K items m Ab))):ST F (vr m) (Av V) (.for_ (.tup ps) (.call (.g 9) [e]) body) (UpS K) Y:=by
 have hg:Glob S 9 (.type "enumerate"):=by have:=T.good.glob 9 (T.good.bu 9 (by decide));rw[T.good.base 9 (by decide)]at this;exact this
 refine ST.for_ y.pass (Mo.enum1 hg (EsT.cons ((d.on O o Sub.rfl h λa Aa Ac u U B=>EsT.nil ⟨a,rfl,?_⟩).monoX y.xf)))
 cases a with
 |str x=>refine Bo (quiet.out B) λe h2 B=>?_;exact⟨T.q e,.inr ⟨x,rfl,h2,D6 T.q d' O y (.free λZ Z=>trivial) u U trivial B⟩⟩
 |list l=>refine An (quiet.out B) λe B=>?_;exact⟨T.q e,.inl ⟨l,rfl,D6 T.q d' O y (.free λZ Z=>trivial) u U trivial B⟩⟩
 |loc x i =>
  unfold enumW at B;dsimp only at B
  cases z:slot Aa i with
  |no=>rw[z]at B;exact B.elim
  |«at» b p =>
   rw[z]at B
   cases p with
   |list l =>
    obtain⟨rfl,B⟩:=B;obtain⟨e,B⟩:=quiet.out B;exact⟨T.q e,.inl ⟨l,B1 (U.at u z),D6 T.q d' O y .loc u U z B⟩⟩
   |_=>exact B.elim
 |_=>exact B.elim
inductive WInv(I:Nat->M->LS->Prop)(n:Nat)(m':L4)(s:L0):Prop
 |mk (m:M)(V:LS)(em:m'=vr m)(e:Sub V s)(k:okS V)(h:I n m V):WInv I n m' s
set_option tactic.hygienic true in
theorem while_ok(d:Sd S k c f X)(d':SdSs S k body g X):SdS S k (.while_ c body) (λm V K=>∃I:Nat->M->LS->Prop,(∃n,I n m V)/\∀n m V,I n m V->f.t m V (λt Aa=>ifW t (g m Aa (kWh n I K)) (K .next m Aa))) X:=by
 intro F T Y B m V K o u;obtain⟨I,⟨n,h0⟩,h⟩:=u;refine ST.while_ B.pass (WInv I) ?_ n ⟨m,V,rfl,Sub.rfl,o,h0⟩;intro n m' s u;obtain⟨m,V,rfl,hs,o,hI⟩:=u;refine(d.onT T o hs (h n m V hI) λt Aa Ac Am Af Ad=>?_).monoX B.xf
 cases t with
 |true =>
  rw[if_pos rfl];refine SsT.mono (SsT.less Af (d' F T Y B m Aa _ Am Ad)) λfl Ar Aj z=>?_;obtain⟨U,Ab,O,Au,AF,z⟩:=z;subst O
  cases fl with
  |next=>refine X1pp z λn' hn y=>?_;exact⟨n',hn,U,Ab,rfl,Au,AF,y⟩
  |ret v=>exact⟨U,Ab,rfl,Au,AF,z⟩
 |false=>rw[if_neg (by decide)];exact⟨m,Aa,rfl,Af,Am,Ad⟩
theorem ST.mu{K:Fl->L4->L0->Prop}{Y:a8->ag->Prop}(h:ST F m V (.assign p e) K Y):ST F m V (.assign p (.mu l e)) K Y:=λps U s hs=>by
 exact X3lpp ps U.inv λt pe T d y=>h _ (.assign d y) s hs
inductive AsgT:List Pat->E->Prop
 |un {ps:List Pat}{e:E}:(Gb e=a6\/4<=ps.length)->AK e=a6->AsgT ps e
 |two {i j:Nat}{a b:E}:i≠j->(D1 8 a || D1 8 b)=a6->AsgT [.v i,.v j] (.tup [a,b])
theorem vOf_ok(h:vOf p=a0 i):p=.v i:=by
 cases p with
 |v j=>obtain rfl:=ae h;rfl
 |tup l=>exact nS h
theorem tupOf_ok(h:tupOf e=a0 es):e=.tup es:=by
 cases e with
 |tup l=>obtain rfl:=ae h;rfl
 |_=>exact(Al rfl h).elim
theorem asg3_ok(h:asg3 p q a b=a6):AsgT [p,q] (.tup [a,b]):=by
 unfold asg3 at h
 cases h1:vOf p with
 |none=>rw[h1]at h;exact nF h
 |some i =>
  rw[h1]at h;dsimp only at h
  cases h2:vOf q with
  |none=>rw[h2]at h;exact nF h
  |some j =>
   rw[h2]at h;refine An (aO.mp h) λy B=>?_;rw[vOf_ok h1,vOf_ok h2];refine .two (λe=>?_) B;clear h h2;subst e;rw[Nat.beq_refl]at y;exact nF y
theorem asg2_ok(h:asg2 ps es=a6):AsgT ps (.tup es):=by
 unfold asg2 at h
 cases h1:two? ps with
 |none=>rw[h1]at h;exact nF h
 |some d =>
  rw[h1]at h;dsimp only at h
  cases h2:two? es with
  |none=>rw[h2]at h;exact nF h
  |some ab =>
   rw[h2]at h;rw[two?_out h1,two?_out h2];exact asg3_ok h
theorem asgT_ok(h:asgT ps e=a6):AsgT ps e:=by
 unfold asgT at h
 cases h1:tupOf e with
 |none=>rw[h1]at h;refine An (aO.mp h) λy B=>?_;exact .un (.inl y) B
 |some es =>
  rw[h1]at h
  rcases di.mp h with h|h
  .rw[tupOf_ok h1];exact asg2_ok h
  .refine An (aO.mp h) λy B=>?_;exact .un (.inr (bt y)) B
theorem JJ{K:KS}{m:M}{j:Nat}(a:AV)(s:L0)(z:Up (λa Aa=>K .next (Ev m j a) Aa) a s):UpS K .next (L4.set (vr m) j a) s:=by
 obtain⟨Aa,T,u,z⟩:=z;exact⟨_,Aa,(ED m j a).symm,T,u,z⟩
set_option tactic.hygienic true in
theorem pat_up{F:Fx S}{Y:a8->ag->Prop}{q:Bool}{K:KS}{m:M}{p:Pat}(hq:q=a6->S.hx=aa)(a:AV)(Aa:LS)(Ac:L0)(O:okS Aa)(T:Sub Aa Ac)(B:patW q p a m (λAo=>K .next Ao Aa)):PT F (vr m) Ac p a (λU y=>UpS K .next U y) Y:=λpe d v u hs r =>
 aU (G3 (Y:=Y) hq B pe d v u hs r) (λ_ u' ⟨m',s',st,h',⟨mm,em,es,z⟩⟩=>by
  subst em;clear hs r;subst es;exact⟨_,_,st,h',mm,Aa,rfl,T,O,z⟩) λZ Z e=>e
inductive Cmp:E->Prop
 |c (elt:E)(i:Nat)(src:E)(cs:List E):Cmp (.comp elt i src cs)
 |m (l:Nat)(elt:E)(i:Nat)(src:E)(cs:List E):Cmp (.mu l (.comp elt i src cs))
theorem G8(h:DF e=a7)(T:notMu e=a6):∃elt i src cs,e=.comp elt i src cs:=by
 cases e with|comp a b c d=>exact⟨_,_,_,_,rfl⟩|mu l e=>exact nF T|_=>exact nT h
theorem cmp_of(h:AK e=a7)(T:notMu2 e=a6):Cmp e:=by
 unfold AK at h
 cases e with
 |mu l y =>
  exact X4l y (G8 (e:=y) h T) λY i B U=>.m _ _ _ _ _
 |comp Y i B U=>exact .c _ _ _ _
 |_=>exact nT h
set_option tactic.hygienic true in
theorem L8(T:Mf S W k Φ):SdS S k (.assign p e) (λm V K=>quiet (asgOk Φ.q p e) ((wp Φ e X).v aa m V (λa Aa=>patW Φ.q p a m (λAo=>K .next Ao Aa)))) X:=by
 refine λF U Y z m V K o h=>An h.out λq h=>?_
 cases p with
 |v j =>
  cases hc:AK e with
  |true=>exact ST.assign hc (((AN T e X).v F U _ m V _ o h).mono JJ |>.monoX z.xf)
  |false =>
   cases cmp_of hc q with|c d i B u=>exact ST.assignComp ((FM (mu:=aa) T U (AN T B X) (AN T d BU) (BB T u BU) o JJ h).monoX z.xf)|m l d i B u=>exact ST.mu (ST.assignComp ((FM (mu:=a0 l) T U (AN T B X) (AN T d BU) (BB T u BU) o JJ h).monoX z.xf))
 |tup ps =>
  refine An (aO.mp q) λqq q=>?_
  cases asgT_ok q with
  |un n1 n2=>exact ST.unpack n1 n2 (((AN T e X).on U o Sub.rfl h (pat_up T.q)).monoX z.xf)
  | @two i j a b O q2 =>
   have h:(wp Φ a X).v aa m V (λx Aa=>(wp Φ b X).v aa m Aa (λy Ab=>patW Φ.q (.tup [.v i,.v j]) (.tup [x,y]) m λAo=>K .next Ao Ab)):=h;exact ST.assign2 (T.q qq) O q2 (((AN T a X).on U o Sub.rfl h λx Aa Ac Am Af Ad=>((AN T b X).on U Am Af Ad λy Ab Aj AF Au Ag=>(An (quiet.out Ag) λZ Ag=>⟨_,Ab,by rw[ED,ED],Au,AF,Ag⟩)).monoX z.xf).monoX z.xf)
theorem slotI.out(h:slotI V a P):∃x i d fs,a=.loc x i/\slot V i=.at x (.inst d)/\slot V (i+1)=.at d (.attrs fs)/\P x i d fs:=by
 cases a with
 |loc x i =>
  have h:(match fields? V i with
   |some f=>(f.1.1=x/\f.2.1=f.1.2)/\P f.1.1 i f.2.1 f.2.2
   |aa=>False):=h
  cases q:fields? V i with
  |none=>rw[q]at h;exact h.elim
  |some f =>
   rw[q]at h;obtain⟨⟨rfl,e⟩,U⟩:=h;exact An (fields?_out q) λy B=>⟨_,_,_,_,rfl,e▸y,B,U⟩
 |_=>exact h.elim
set_option tactic.hygienic true in
theorem IY(T:Mf S W k Φ)(d:Sd S k e f X)(d':Sd S k ob g X):SdS S k (.setattr ob n e) (λm V K=>quiet (AK e && (cr n 11 || cr n 12)) (f.v aa m V (λx Aa=>g.v aa m Aa (λa y=>slotI y a λZ i d fs=>fs.length<=100/\K .next m (y.set (i+1) (.at d (.attrs (JB fs (fld n) x)))))))) X:=by
 refine λF hk Y hY m V K o h=>An h.out λO h=>?_;have O:AK e=a6/\(n=11\/n=12):=by
  exact An (aO.mp O) λh1 h2=>⟨h1,(di.mp h2).imp bP bP⟩
 refine ST.setattr T.good.floor (T.good.field O.2) (Lq O.2) O.1 (((d.on hk o Sub.rfl h λx Aa Ac Am Af Ad=>(d'.on hk Am Af Ad λa y Aj u B U=>?_).monoX hY.xf)).monoX hY.xf);obtain⟨b,i,d,fs,rfl,z,z',hz,U⟩:=U.out;obtain⟨Kl,Gi⟩:=B.set (p:=.attrs (JB fs (fld n) x)) u z';exact⟨b,i,d,fs,rfl,B.at u z,B.at u z',hz,m,_,rfl,Gi,Kl,U⟩
set_option tactic.hygienic true in
theorem IX(d:Sd S k e f X)(d':Sd S k ob g X)(d2:Sd S k i h X):SdS S k (.setitem ob i e) (λm V K=>quiet (AK e) (f.v aa m V (λx Aa=>g.v aa m Aa (λa Ab=>h.v aa m Ab (λk O=>slotD O a λb j l=>l.length<=big/\spotW k λkk=>K .next m (O.set j (.at b (.dict (Bs l kk x))))))))) X:=by
 refine λF B Y y m V K o q=>An q.out λhn q=>ST.setitem hn (((d.on B o Sub.rfl q λx Aa Ac Am Af Ad=>((d'.on B Am Af Ad λa Ab Aj AF Au Ag=>((d2.on B AF Au Ag λkk O BR U u T=>?_).monoX y.xf)).monoX y.xf)).monoX y.xf));obtain⟨b,j,l,rfl,z,hz,T⟩:=T.out;obtain⟨kk,rfl,T⟩:=T.out;exact An (u.set (p:=.dict (Bs l kk x)) U z) λKl Gi=>⟨b,j,l,kk,rfl,rfl,u.at U z,hz,m,_,rfl,Gi,Kl,T⟩
theorem E.g?_out{e:E}{i:Nat}(h:e.g?=a0 i):e=.g i:=by
 cases e with
 |g j=>obtain rfl:=ae h;rfl
 |_=>exact(Al rfl h).elim
theorem E.str?_out{e:E}{i:Str}(h:e.str?=a0 i):e=.str i:=by
 cases e with
 |str j=>obtain rfl:=ae h;rfl
 |_=>exact(Al rfl h).elim
theorem call1?_out(h:call1? e=a0 p):e=.call (.g p.1) [p.2]:=by
 cases e with
 |call f es =>
  refine X1pp (AC (show f.g?.bind (λi=>(one? es).bind λe=>a0 (i,e))=a0 p from h)) λi Y h=>X1pp (AC h) λa z h=>?_
  obtain rfl:=ae h;rw[one?_out z,E.g?_out Y]
 |_=>exact(Al rfl h).elim
theorem Jq(h:LI e=a0 e'):e=.call (.g 9) [e']:=by
 refine X1pp (AC h) λp Y h=>?_
 cases q:cr p.1 9 with
 |false=>rw[q]at h;exact nS h
 |true=>rw[q]at h;obtain rfl:=ae h;rw[call1?_out Y,bP q]
theorem xcOf_ok{e:E}{i:Nat}(h:xcOf e=a0 i):∃t,e=.call (.g i) [.str t]:=by
 refine X1pp (AC h) λp Y h=>X1pp (AC h) λt z h=>?_;obtain rfl:=ae h;exact⟨t,by rw[call1?_out Y,E.str?_out z]⟩
set_option tactic.hygienic true in
theorem srcS_ok(T:Mf S W k Φ)(z:SdSs S k body g X)(F:Fx S)(B:k<=F.k)(Y:a8->ag->Prop)(u:Xo F X Y)(m:M)(V:LS)(K:KS)(o:okS V)
  (h:srcS Φ X p e m V (λitems ok U=>Jm Φ.q p g ok K items m U)):ST F (vr m) (Av V) (.for_ p e body) (UpS K) Y:=by
 unfold srcS at h
 split at h
 .rename_i O y
  split at h
  .rename_i d
   rw[Jq y]
   cases p with|v i=>exact nF d|tup ps=>exact enum_ok T (AN T O X) z F B Y u m V K o h
  .exact h.elim
 .exact for_ok T (AN T e X) z F B Y u m V K o h
theorem raise_ok{e:E}(T:Mf S W k Φ)(F:Fx S)(U:k<=F.k)(Y:a8->ag->Prop)(B:Xo F X Y)(m:M)(V:LS)(K:KS)(o:okS V) (h:match xcOf e with
  |some i=>quiet (isXc Φ.ex i) (quiet Φ.q (X i V))
  |aa=>False):ST F (vr m) (Av V) (.raise e) (UpS K) Y:=by
 cases hi:xcOf e with
 |none=>rw[hi]at h;exact h.elim
 |some i =>
  rw[hi]at h;refine An (quiet.out h) λu h=>X1p (xcOf_ok hi) λt y=>?_;clear hi;subst y;refine An (quiet.out h) λe h=>?_;unfold isXc at u;simp only[bc,iI]at u;exact λps d s hs=>aU (ST.raise (K:=UpS K) (X:=Up X) T.good (T.ex i u.1.1) u.1.2 u.2 (T.q e) (.now o h) ps d s hs) (λZ Z z=>z) B.up
mutual
theorem wpS_ok(T:Mf S W k Φ):∀(st:Internal.S)(X:XL),SdS S k st (wpS Φ st X) X
 |.assign p e,X=>L8 T
 |.setattr y n e,X=>IY T (AN T e X) (AN T y X)
 |.setitem y i e,X=>IX (AN T e X) (AN T y X) (AN T i X)
 |.expr e,X=>λF B Y u m V K o h=>ST.expr (quiet.out h).1 (((AN T e X).on B o Sub.rfl (quiet.out h).2 λa Aa Ac U O d=>⟨m,Aa,rfl,O,U,d⟩).monoX u.xf)
 |.ret e,X=>λF B Y u m V K o h=>ST.ret (((AN T e X).on B o Sub.rfl h λa Aa Ac U O d=>⟨m,Aa,rfl,O,U,d⟩).monoX u.xf)
 |.ite c a b,X=>λF B Y u m V K o h=>ST.ite (((AN T c X).onT B o Sub.rfl h λt Aa Ac U O d=>by
  cases t with|true=>exact SsT.less O (BV T a X F B Y u m Aa K U d)|false=>exact SsT.less O (BV T b X F B Y u m Aa K U d)).monoX u.xf)
 |.for_ p e body,X=>λF B Y u m V K o h=>srcS_ok T (BV T body X) F B Y u m V K o h
 |.while_ c body,X=>while_ok (AN T c X) (BV T body X)
 |.raise e,X=>λF B Y u m V K o h=>raise_ok T F B Y u m V K o h
 |.try_ _ _ _ _,X=>λF B Y u m V K o h=>h.elim
 |.pass,X=>λF B Y u m V K o h=>ST.pass ⟨m,V,rfl,Sub.rfl,o,h⟩
theorem BV(T:Mf S W k Φ):∀(y:List Internal.S)(X:XL),SdSs S k y (wpSs Φ y X) X
 |[],X=>λF B Y O m V K o h=>SsT.nil ⟨m,V,rfl,Sub.rfl,o,h⟩
 |s::r,X=>λF B Y O m V K o h=>SsT.cons ((wpS_ok T s X F B Y O m V _ o h).mono λfl Ao Ac z=>by
  obtain⟨U,Aa,em,d,u,z⟩:=z;subst em
  cases fl with
  |next=>exact SsT.less d (BV T r X F B Y O U Aa K u z)
  |ret v=>exact⟨U,Aa,rfl,d,u,z⟩)
end
end
end
section
variable {S:Sta}{W:Wd}
theorem Mm.nf(r:Mm cv h D o a):∃ob,h.get? a=a0 ob/\∀vs,ob.data≠.fields vs:=by
 induction r using Mm.casesOn with|list e _=>exact⟨_,e,λZ z=>by exact nDf rfl z⟩|dict e _ _ _=>exact⟨_,e,λZ z=>by exact nDf rfl z⟩|inst e _=>exact⟨_,e,λZ z=>by exact nDf rfl z⟩|attrs e _=>exact⟨_,e,λZ z=>by exact nDf rfl z⟩
inductive FrK(Aa V:L0){α:Type}(Q:α->L0->Prop)(v:α)(s:L0):Prop
 |mk (t:L0)(q:Q v t)(s1:∀a o,t a=a0 o->s a=a0 o)(s2:∀a o,V a=a0 o->Aa a=aa->s a=a0 o)(new:∀a,Dom t a->Dom Aa a\/V a=aa):FrK Aa V Q v s
theorem By(e:V a=a0 o):Dom V a:=by unfold Dom;rw[e];simp
theorem Cl(d:Dom V a):∃o,V a=a0 o:=by
 cases e:V a with|none=>exact absurd e d|some o=>exact⟨o,rfl⟩
abbrev Hid(Aa V:L0)(a:bg):Prop:=Dom V a/\¬Dom Aa a
open Classical in
noncomputable def Fv(Aa V t:L0):L0:=λa=>if Hid Aa V a then V a else t a
structure Framed(S:Sta)(N:bg->Prop)(A:c6)(Aa V:L0)(s:ag)(t:L0)(s':ag):Prop where
 st:L2 (Frm A) noO V s (Fv Aa V t) s'
 i:Inv S N (Fv Aa V t) s'
 d:∀b,DN N (Fv Aa V t) b->DN (λa=>N a\/Hid Aa V a) t b
 nw:∀a,Dom t a->Dom Aa a\/V a=aa
theorem EQ(u:∀a o,Aa a=a0 o->V a=a0 o)(O:Room S N k A)(hi:Inv S N V s)
  (st:L2 (Frm A) noO Aa s t s') (i:Inv S (λa=>N a\/Hid Aa V a) t s'):Framed S N A Aa V s t s':=by
 have hH:∀{a},Hid Aa V a->Fv Aa V t a=V a:=λh=>if_pos h;have z:∀{a},¬Hid Aa V a->Fv Aa V t a=t a:=λh=>if_neg h;have U:∀{a},Dom Aa a->Dom V a:=λd=>by refine X1p (Cl d) λo e=>?_;exact By (u _ _ e)
 have Y:∀{a},Dom (Fv Aa V t) a->Hid Aa V a\/Dom t a:=λ{a} d=>by
  by_cases h:Hid Aa V a
  .exact .inl h
  .right;unfold Dom at d ⊢;rw[z h]at d;exact d
 have fN:∀{a},Frm A a->N a:=λ{a} ⟨l,el,e,he,hf⟩=>by
  refine X1pp O.fr λl' B hl=>?_;rw[el]at B;obtain rfl:=ae B;refine An (hl e he) λZ Z0=>X1ppp Z0 λL h2 h3 Z=>?_;rw[hf]at h2;obtain rfl:=ae h2;exact h3
 have dm:∀b,Dom (Fv Aa V t) b->Dom V b\/s.heap.get? b=aa:=λb d=>(Y d).elim (λh=>.inl h.1) λh=>(st.dom b h).imp U id;have dd:∀b,DN N (Fv Aa V t) b->DN (λa=>N a\/Hid Aa V a) t b:=λb d=>d.elim (λd=>(Y d).elim (λh=>.inr (.inr h)) .inl) λh=>.inr (.inl h);refine⟨⟨st.ext.mono λa h=>h.imp U id,λb o e p ho d=>st.frm b o e p ho λq=>d (U q),dm,st.there⟩,⟨i.keep,i.gens,i.drawn,i.os,λa d=>(Y d).elim (λh=>hi.σg a h.1) (i.σg a),λa d n=>(Y d).elim (λh=>hi.σN a h.1 n) λh=>i.σN a h (.inl n),λa n=>i.Nin a (.inl n),λa o e=>?_⟩,dd,λa d=>?_⟩
 .by_cases h:Hid Aa V a
  .rw[hH h]at e
   exact(hi.rep a o e).ext (D:=DN N V) (st.ext.mono λb q=>q.elim (λq=>.inl (U q)) λq=>q.elim (λq=>q.elim) λq=>.inr (fN q)) (λb d=>d.elim (λd=>(dm b d).imp .inl id) λd=>.inl (.inr d)) λT y=>st.ext.obj a T y λq=>q.elim h.2 λq=>q.elim (λq=>q.elim) λq=>hi.σN a h.1 (fN q)
  .rw[z h]at e
   exact(i.rep a o e).ext (Ext.refl _ _) (λb d=>.inl (dd b d)) λZ q=>q
 .rcases st.dom a d with q|q
  .exact .inl q
  .refine .inr ?_
   cases e:V a with|none=>rfl|some o=>refine X1pp ((hi.rep a o e).there) λT y Z=>?_;rw[q]at y;exact nS y
theorem FrK.of(f:Framed S N A Aa V s t s')(i:Inv S (λa=>N a\/Hid Aa V a) t s')(q:Q v t):FrK Aa V Q v (Fv Aa V t):=by
 refine⟨t,q,λa o e=>?_,λa o e n=>?_,f.nw⟩
 .have:¬Hid Aa V a:=λh=>i.σN a (By e) (.inr h)
  exact(if_neg this).trans e
 .exact(if_pos ⟨By e,λd=>d n⟩).trans e
theorem Mi.frame(u:∀a o,Aa a=a0 o->V a=a0 o)(h:Mi S k f avs Aa Q X):Mi S k f avs V (FrK Aa V Q) (FrK Aa V X):=by
 intro N A vals s O hi B;have U:∀{a},Dom Aa a->Dom V a:=λd=>by refine X1p (Cl d) λo e=>?_;exact By (u _ _ e)
 have dd:∀b,DN (λa=>N a\/Hid Aa V a) Aa b->DN N V b:=λb d=>d.elim (λd=>.inl (U d)) λd=>d.elim .inr λd=>.inl d.1;have T:Inv S (λa=>N a\/Hid Aa V a) Aa s:=⟨hi.keep,hi.gens,hi.drawn,hi.os,λa d=>hi.σg a (U d),λa d n=>n.elim (hi.σN a (U d)) λn=>n.2 d,λa n=>n.elim (hi.Nin a) λn=>by
   exact X1p (Cl n.1) λo e=>(hi.rep a o e).nf,λa o e=>(hi.rep a o (u a o e)).ext (Ext.refl _ _) (λb d=>.inl (dd b d)) λZ q=>q⟩
 refine dH (h _ A vals s (O.wide λa n=>.inl n) T (B.less dd)) λr s' z=>?_
 cases r with
 |error e =>
  obtain⟨ea,c,t,Ak,h1,h2,h3,y,Y⟩:=z;have f:=EQ u O hi h3 y;exact⟨ea,c,_,Ak,h1,h2,f.st,f.i,FrK.of f y Y⟩
 |ok fl =>
  cases fl with
  |ret v =>
   obtain⟨av,t,st,i,r,q⟩:=z;have f:=EQ u O hi st i;exact⟨av,_,f.st,f.i,r.less f.d,FrK.of f i q⟩
  |_=>exact z
theorem Bl:∀{V:LS}{i j:Nat}{a:bg}{o p:Mg},okS V->slot V i=.at a o->slot V j=.at a p->i=j
 |[],i,j,a,o,p,_,h,_=>by cases h
 |x::r,0,0,a,o,p,_,_,_=>rfl
 |x::r,0,j+1,a,o,p,k,h,h'=>by
  have:x=.at a o:=h
  clear h;subst this
  have:=Az k.2 (show slot r j=.at a p from h');rw[k.1]at this;exact nS this
 |x::r,i+1,0,a,o,p,k,h,h'=>by
  have:x=.at a p:=h'
  clear h';subst this
  have:=Az k.2 (show slot r i=.at a o from h);rw[k.1]at this;exact nS this
 |x::r,i+1,j+1,a,o,p,k,h,h'=>by
  have O:okS r:=by cases x with|no=>exact k|«at» c q=>exact k.2
  exact congrArg fF (Bl (V:=r) O h h')
theorem HX:∀{V:LS}{a:bg}{o:Mg},.at a o∈V->∃i,slot V i=.at a o
 |x::r,a,o,h=>by
  rcases az.mp h with q|q
  .exact⟨0,q.symm⟩
  .refine X1p (HX q) λi e=>?_;exact⟨i+1,e⟩
theorem Bc(h:Av V a=a0 o):∃i,slot V i=.at a o:=HX (F2 h)
theorem EL:∀{V:LS},(∀i j a o p,slot V i=.at a o->slot V j=.at a p->i=j)->okS V
 |[],_=>trivial
 |.no::r,h=>EL (V:=r) λi j a o p Y y=>fA (h (i+1) (j+1) a o p Y y)
 |.at b q::r,h=>by
  refine⟨?_,EL (V:=r) λi j a o p Y y=>fA (h (i+1) (j+1) a o p Y y)⟩
  cases e:Av r b with
  |none=>rfl
  |some o=>refine X1p (Bc e) λi z=>?_;cases h 0 (i+1) b q o rfl z
theorem HI(h:slot (V.set i s) j=.at a o):(j=i/\s=.at a o)\/(j≠i/\slot V j=.at a o):=by
 unfold slot at h ⊢;rw[aD,List.getElem?_set]at h
 by_cases q:i=j
 .subst q
  rw[if_pos rfl]at h
  by_cases z:i<V.length
  .rw[if_pos z]at h;exact .inl ⟨rfl,h⟩
  .rw[if_neg z]at h;cases h
 .rw[if_neg q]at h
  exact .inr ⟨λe=>q e.symm,by rwa [aD]⟩
theorem DX:∀{l:List Nat},HV l=a6->l.Nodup
 |[],_=>.nil
 |i::r,h=>by
  refine An (aO.mp h) λY z=>bG.mpr ⟨λq=>?_,DX z⟩
  have:r.any (cr i)=a6:=dW.mpr ⟨i,q,Nat.beq_refl i⟩
  rw[this]at Y;exact nF Y
theorem C7:∀{ix:List Nat}{V τ:LS}{j:Nat}{a:bg}{o:Mg},ix.Nodup->slot (wb V ix τ) j=.at a o->(j∉ix/\slot V j=.at a o)\/∃p,ix[p]?=a0 j/\slot τ p=.at a o
 |[],V,τ,j,a,o,_,h=>.inl ⟨bp,h⟩
 |i::r,V,s::τ,j,a,o,n,h=>by
  rw[bG]at n
  rcases C7 (ix:=r) n.2 h with⟨Y,y⟩|⟨p,Y,y⟩
  .rcases HI y with⟨rfl,q⟩|⟨q,z⟩
   .exact .inr ⟨0,rfl,q⟩
   .exact .inl ⟨λm=>(az.mp m).elim q Y,z⟩
  .exact .inr ⟨p+1,Y,y⟩
 |i::r,V,[],j,a,o,n,h=>by
  rw[bG]at n
  rcases C7 (ix:=r) n.2 h with⟨Y,y⟩|⟨p,Y,y⟩
  .rcases HI y with⟨rfl,q⟩|⟨q,z⟩
   .cases q
   .exact .inl ⟨λm=>(az.mp m).elim q Y,z⟩
  .cases y
theorem BK{ix:List Nat}{p:Nat}{a:bg}{o:Mg}(h:slot (ix.map (slot V)) p=.at a o):∃i,ix[p]?=a0 i/\slot V i=.at a o:=by
 unfold slot at h;rw[aD,aM]at h
 cases e:ix[p]? with
 |none=>rw[e]at h;cases h
 |some i=>rw[e]at h;exact⟨i,rfl,h⟩
theorem nodup_at{l:List Nat}{p q i:Nat}(n:l.Nodup)(Y:l[p]?=a0 i)(T:l[q]?=a0 i):p=q:=by
 have d:p<l.length:=by
  rcases bO p l.length with z|z
  .exact z
  .rw[aZ z]at Y;exact nS Y
 exact(ic d n).mp (Y.trans T.symm)
theorem Kh{V:LS}{ix:List Nat}(k:okS V)(n:ix.Nodup):okS (ix.map (slot V))/\Sub (ix.map (slot V)) (Av V):=by
 refine⟨EL λi j a o p Y U=>?_,λa o e=>?_⟩
 .refine X1pp (BK Y) λd u O=>X1pp (BK U) λy B T=>?_
  have:=Bl k O T
  clear T;subst this;exact nodup_at n u B
 .exact X1p (Bc e) λp z=>X1pp (BK z) λi Z z=>Az k z
theorem wb_ok{V τ:LS}{ix:List Nat}{s:L0}(k:okS V)(n:ix.Nodup)(kt:okS τ)(ht:Sub τ s)(B:∀a o,Av V a=a0 o->Av (ix.map (slot V)) a=aa->s a=a0 o)(nw:∀a,Dom (Av τ) a->Dom (Av (ix.map (slot V))) a\/Av V a=aa):okS (wb V ix τ)/\Sub (wb V ix τ) s:=by
 have Y:∀{i a o p y},i∉ix->slot V i=.at a o->slot τ p=.at a y->False:=λ{i a o p y} hn d B=>by
  rcases nw a (By (Az kt B))with q|q
  .refine X1p (Cl q) λo2 e=>X1p (Bc e) λp' z=>X1pp (BK z) λi' u z=>?_
   have:=Bl k d z
   clear z;subst this;exact hn (ah u)
  .rw[Az k d]at q;exact nS' q
 refine⟨EL λi j a o p d B=>?_,λa o e=>?_⟩
 .rcases C7 n d with⟨U,O⟩|⟨p1,u,O⟩<;>rcases C7 n B with⟨n2,T⟩|⟨p2,e2,T⟩
  .exact Bl k O T
  .exact(Y U O T).elim
  .exact(Y n2 T O).elim
  .have:=Bl kt O T
   clear T;subst this;rw[u]at e2;exact ae e2
 .refine X1p (Bc e) λj z=>?_
  rcases C7 n z with⟨U,O⟩|⟨p1,u,O⟩
  .refine B a o (Az k O) ?_
   cases q:Av (ix.map (slot V)) a with
   |none=>rfl
   |some y =>
    refine X1p (Bc q) λp' z=>X1pp (BK z) λi' u z=>?_
    have:=Bl k O z
    clear z;subst this;exact(U (ah u)).elim
  .exact ht a o (Az kt O)
end
section
variable {S:Sta}{W:Wd}
noncomputable def isLD:Mg->Bool
 |.list _=>a6
 |.dict _=>a6
 |_=>a7
def newW(k:Nat)(V:LS)(v:AV)(js:List Nat)(os:List Mg)(K:Sh->List Nat->List Mg->Prop):Prop:=match v with
 |.loc a i=>(match slot V i with
  |.at b o=>(match isLD o && fM k i && !(js.any (cr i))with
   |true=>b=a/\K (.new os.length) (js++[i]) (os++[o])
   |false=>False)
  |.no=>False)
 |_=>False
mutual
def convW(k:Nat)(V:LS):Rs->AV->List Nat->List Mg->(Sh->List Nat->List Mg->Prop)->Prop
 |.val,v,js,os,K=>K (.val v) js os
 |.new,v,js,os,K=>newW k V v js os K
 |.tup rs,v,js,os,K=>(match v with
  |.tup vs=>Iv k V rs vs js os (λsh js os=>K (.tup sh) js os)
  |_=>False)
 |.list rs,v,js,os,K=>(match v with
  |.list vs=>Iv k V rs vs js os (λsh js os=>K (.list sh) js os)
  |_=>False)
 |.any,v,js,os,K=>newW k V v js os K\/K (.val v) js os
def Iv(k:Nat)(V:LS):List Rs->List AV->List Nat->List Mg->(List Sh->List Nat->List Mg->Prop)->Prop
 |[],[],js,os,K=>K [] js os
 |r::rs,v::vs,js,os,K=>convW k V r v js os (λsh js os=>Iv k V rs vs js os (λshs js os=>K (sh::shs) js os))
 |_,_,_,_,_=>False
end
def CA(rs:Rs)(k:Nat)(v:AV)(V:LS)(K:KR):Prop:=convW k V rs v [] [] (λsh Z os=>K ⟨os,sh⟩ (V.take k))
noncomputable def flV:Fl->AV
 |.ret v=>v
 |.next=>.none
def fnW(Φ:Tab)(c:At)(rs:Rs)(nv ns:Nat)(avs:List AV)(V:LS)(K:KR)(X:XL):Prop :=
 avs.length=c.n/\wpSs Φ c.body (λe τ=>X e (τ.take V.length)) (avs.map a0++aP nv aa) (V++aP ns .no) (λfl Z τ=>CA rs V.length (flV fl) τ K)
mutual
inductive ShR(V:LS)(js:List Nat)(os:List Mg):Sh->AV->Prop
 |val (v:AV):ShR V js os (.val v) v
 |new {j i:Nat}{a:bg}{o:Mg}:js[j]?=a0 i->slot V i=.at a o->os[j]?=a0 o->ShR V js os (.new j) (.loc a i)
 |tup {l:List Sh}{vs:List AV}:ShRL V js os l vs->ShR V js os (.tup l) (.tup vs)
 |list {l:List Sh}{vs:List AV}:ShRL V js os l vs->ShR V js os (.list l) (.list vs)
inductive ShRL(V:LS)(js:List Nat)(os:List Mg):List Sh->List AV->Prop
 |nil:ShRL V js os [] []
 |cons {s:Sh}{v:AV}{l:List Sh}{vs:List AV}:ShR V js os s v->ShRL V js os l vs->ShRL V js os (s::l) (v::vs)
end
theorem Hk{l k:List α}{i:Nat}{x:α}(h:l[i]?=a0 x):(l++k)[i]?=a0 x:=by
 have:i<l.length:=by
  rcases bO i l.length with z|z
  .exact z
  .rw[aZ z]at h;exact nS h
 rwa [cq this]
theorem ShR.more{os os':List Mg}{s:Sh}{v:AV}(h:ShR V js os s v):ShR V (js++js') (os++os') s v :=
 ShR.rec (motive_1:=λs v Z=>ShR V (js++js') (os++os') s v) (motive_2:=λl vs Z=>ShRL V (js++js') (os++os') l vs)
  (λv=>.val v) (λa b c=>.new (Hk a) b (Hk c)) (λZ h=>.tup h) (λZ h=>.list h) .nil (λZ Z a b=>.cons a b) h
structure Fine(k:Nat)(V:LS)(js:List Nat)(os:List Mg):Prop where
 len:js.length=os.length
 nd:js.Nodup
 at_:∀(j i:Nat),js[j]?=a0 i->k<=i/\∃a o,slot V i=.at a o/\os[j]?=a0 o/\isLD o=a6
inductive Conv(k:Nat)(V:LS)(js:List Nat)(os:List Mg){α:Type}(R:α->List Nat->List Mg->Prop)(K:α->List Nat->List Mg->Prop):Prop
 |mk (sh:α)(js':List Nat)(os':List Mg)(f:Fine k V (js++js') (os++os'))(r:R sh (js++js') (os++os'))(h:K sh (js++js') (os++os')):Conv k V js os R K
set_option tactic.hygienic true in
theorem Kw{T:List Nat}{os:List Mg}{K:Sh->List Nat->List Mg->Prop}(f:Fine k V T os)(h:newW k V v T os K):Conv k V T os (λs T os=>ShR V T os s v) K:=by
 unfold newW at h
 split at h
 .rename_i a i
  split at h
  .rename_i b o z
   split at h
   .rename_i q
    obtain⟨rfl,h⟩:=h;obtain⟨U,O⟩:=aO.mp q;obtain⟨U,Y⟩:=aO.mp U;refine⟨_,[i],[o],⟨?_,?_,?_⟩,.new (j:=os.length) ?_ z ?_,h⟩
    .rw[ar,ar,f.len];rfl
    .rw[cM]
     refine⟨f.nd,bG.mpr ⟨bp,.nil⟩,λx hx y u e=>?_⟩;have u:=ay.mp u;subst e;subst u
     have:T.any (cr x)=a6:=dW.mpr ⟨x,hx,Nat.beq_refl x⟩
     rw[this]at O;exact nF O
    .intro j i' d
     rcases bO j T.length with B|B
     .rw[cq B]at d
      exact An (f.at_ j i' d) λh1 Z0=>X2ppp Z0 λa' o' h2 h3 h4=>⟨h1,a',o',h2,Hk h3,h4⟩
     .rw[bo B]at d
      cases hjj:j - T.length with
      |zero =>
       rw[hjj]at d;obtain rfl:=ae d;refine⟨iI.mp Y,b,o,z,?_,U⟩;rw[bo (by rw[<- f.len];exact B),<- f.len,hjj];rfl
      |succ n=>rw[hjj]at d;exact nS d
    .rw[<- f.len,bo (aB _),Nat.sub_self];rfl
    .rw[bo (aB _),Nat.sub_self];rfl
   .exact h.elim
  .exact h.elim
 .exact h.elim
mutual
theorem FK:∀{rs:Rs}{v:AV}{T:List Nat}{os:List Mg}{K:Sh->List Nat->List Mg->Prop},Fine k V T os->convW k V rs v T os K->Conv k V T os (λs T os=>ShR V T os s v) K
 |.val,v,T,os,K,f,h=>⟨_,[],[],by rwa [aF,aF],.val v,by rw[aF,aF];exact h⟩
 |.new,v,T,os,K,f,h=>Kw f h
 |.tup rs,v,T,os,K,f,h=>by
  cases v with
  |tup vs=>obtain⟨l,js',os',O,r,h⟩:=Ef f h;exact⟨_,js',os',O,.tup r,h⟩
  |_=>exact h.elim
 |.list rs,v,T,os,K,f,h=>by
  cases v with
  |list vs=>obtain⟨l,js',os',O,r,h⟩:=Ef f h;exact⟨_,js',os',O,.list r,h⟩
  |_=>exact h.elim
 |.any,v,T,os,K,f,h=>h.elim (Kw f) λh=>⟨_,[],[],by rwa [aF,aF],.val v,by rw[aF,aF];exact h⟩
theorem Ef{V:LS}:∀{rs:List Rs}{v:List AV}{T:List Nat}{os:List Mg}{K:List Sh->List Nat->List Mg->Prop},Fine k V T os->Iv k V rs v T os K->Conv k V T os (λs T os=>ShRL V T os s v) K
 |[],[],T,os,K,f,h=>⟨_,[],[],by rwa [aF,aF],.nil,by rw[aF,aF];exact h⟩
 |r::rs,v::vs,T,os,K,f,h=>by
  obtain⟨s,js',os',d,Y,h⟩:=FK f h;obtain⟨l,U,B,y,O,h⟩:=Ef d h;rw[aH,aH]at y O h;refine⟨_,js'++U,os'++B,y,.cons ?_ O,h⟩
  have:=Y.more (js':=U) (os':=B)
  rw[aH,aH]at this;exact this
 |[],_::_,_,_,_,_,h=>h.elim
 |_::_,[],_,_,_,_,h=>h.elim
end
theorem Fine.nil:Fine k V [] []:=⟨rfl,.nil,λZ Z h=>by exact nS h⟩
theorem ShR.rep{os:List Mg}{f:Nat->AV}{s:Sh}{v:AV}(hr:ShR V js os s v)(hf:∀(j i:Nat)(a:bg)(o:Mg),js[j]?=a0 i->slot V i=.at a o->os[j]?=a0 o->Rep cv h D' (f j) (.ref a))
  (hl:∀{v u},Rep cv h D v u->Rep cv h D' v u) (O:∀a,D' a->D a):∀{u:a8},Rep cv h D v u->Rep cv h D' (s.with f) u :=
 ShR.rec (motive_1:=λs v Z=>∀{u:a8},Rep cv h D v u->Rep cv h D' (s.with f) u) (motive_2:=λl vs Z=>∀{z:List a8},RepL cv h D vs z->RepL cv h D' (Sh.withL f l) z)
  (λv u r=>hl r) (λa b c u r=>by rw[show u=bK _ from r.inv];exact hf _ _ _ _ a b c)
  (λZ y u r=>by obtain⟨a,vs,n,rfl,e,d,r⟩:=r.inv;exact .tup e (λq=>d (O _ q)) (y r)) (λZ y u r=>by obtain⟨a,vs,n,rfl,e,d,r⟩:=r.inv;exact .list e (λq=>d (O _ q)) (y r))
  (λr=>by rw[show _=([]:List a8) from r.inv];exact .nil) (λZ Z T B z r=>by refine X2lpp z r.inv λv rr Y U=>?_;exact .cons (T Y) (B U)) hr
inductive OutF(K:KR)(v:AV)(s:L0):Prop
 |mk (r:RT)(τ:LS)(e:v=r.sh.with (JC r.os))(k:okS τ)(hs:Sub τ s)(h:K r τ):OutF K v s
noncomputable def Jh:List bg->Nat->List AV
 |[],_=>[]
 |a::r,i=>.loc a i::Jh r (i+1)
theorem Gg:∀{as:List bg}{i j:Nat}{a:bg},as[j]?=a0 a->∃n,(Jh as i).getD j .none=.loc a n
 |a::r,i,0,_,h=>by obtain rfl:=ae h;exact⟨i,rfl⟩
 |_::r,i,j+1,a,h=>Gg (as:=r) (i:=i+1) (j:=j) h
inductive OutM(i:Nat)(K:KR)(v:AV)(s:L0):Prop
 |mk (r:RT)(τ:LS)(as:List bg)(e:v=r.sh.with (λj=>(Jh as i).getD j .none))(k:okS τ)(hs:Sub τ s)(nd:as.Nodup)(len:as.length=r.os.length)(at_:∀(j:Nat)(o:Mg),r.os[j]?=a0 o->∃a,as[j]?=a0 a/\s a=a0 o/\Av τ a=aa)(h:K r τ):OutM i K v s
theorem BF(h:slot (V.take k) p=.at a o):p<k/\slot V p=.at a o:=by
 unfold slot at h ⊢;rw[aD,List.getElem?_take]at h
 by_cases q:p<k
 .rw[if_pos q]at h;exact⟨q,by rwa [aD]⟩
 .rw[if_neg q]at h;cases h
theorem DK(o:okS V):okS (V.take k)/\∀a p,Av (V.take k) a=a0 p->Av V a=a0 p:=by
 exact⟨EL λi j a p q Y y=>Bl o (BF Y).2 (BF y).2,λa p e=>(X1p (Bc e) λi z=>(Az o (BF z).2))⟩
theorem Ii:∀{os:List Mg}{j:Nat}{o:Mg},os[j]?=a0 o->JC os j=frz o
 |o::os,0,_,h=>by obtain rfl:=ae h;rfl
 |_::os,j+1,o,h=>Ii (os:=os) h
theorem Cz{K:KR}{m:L4}(o:okS V)(hs:Sub V s)(h:CA rs k (flV fl) V K):RetK S (OutF K) fl m s:=by
 intro N;obtain⟨sh,js,os,f,r,h⟩:=FK Fine.nil h;simp only[gv]at f r h
 let as:List bg:=js.filterMap λi=>match slot V i with
  |.at a _=>a0 a
  |.no=>aa
 have mem:∀{i a p},i∈js->slot V i=.at a p->a∈as:=λ{i a p} hi z=>d7.mpr ⟨i,hi,by rw[z]⟩
 refine⟨sh.with (JC os),s.dels as,?_,⟨os,sh⟩,V.take k,rfl,(DK o).1,λa p e=>?_,h⟩
 .show View S N (flV fl) _ _ _
  refine λt u hi ru=>An (hi.drop (V':=s.dels as) λb p e=>(CU e).2) λi st=>⟨i,st,r.rep (D:=DN N s) (D':=DN N (s.dels as)) (λj O a p T z hp=>?_) (λr=>r.step st (λZ h=>h.elim) (λZ h=>h.elim)) (λa d=>d.imp (λd=>?_) id) ru⟩
  .have y:s a=a0 p:=hs.at o z
   have ia:a∈as:=mem (ah T) z;rw[Ii hp];refine An (f.at_ j O T) λZ Z0=>X2ppp Z0 λa' o' B hp' hl=>?_;rw[z]at B;cases B
   cases p with
   |list l =>
    exact X2pp ((hi.rep a _ y).inv) λvs n e r=>.list e (λd=>d.elim (Ba ia) (hi.σN a (By y))) (r.step st (λZ h=>h.elim) (λZ h=>h.elim))
   |dict l =>
    exact X2pppp ((hi.rep a _ y).inv) λvs n e sm nd r=>.dict e (λd=>d.elim (Ba ia) (hi.σN a (By y))) sm nd (r.step st (λZ h=>h.elim) (λZ h=>h.elim))
   |_=>exact nF hl
  .refine X1p (Cl d) λp e=>?_;exact By (CU e).2
 .refine X1p (Bc e) λi z=>An (BF z) λU z=>?_
  unfold L0.dels;rw[if_neg]
  .exact hs.at o z
  .refine λq=>X1pp (d7.mp q) λO Y e'=>X1p (gj Y) λj T=>An (f.at_ j O T) λhk Z1=>X2ppp Z1 λa' o' B Z Z=>?_
   rw[B]at e';obtain rfl:=ae e'
   have:=Bl o z B
   exact lin [i,k,O] [] .no [.c V0 V1,.b V1 V2,.D (-1) V0 V2] rfl U hk this
theorem HN{K:KR}{m:L4}(o:okS V)(hs:Sub V s)(h:CA rs k (flV fl) V K):RetK S (OutM i K) fl m s:=by
 intro N;obtain⟨sh,T,os,f,r,h⟩:=FK Fine.nil h;simp only[gv]at f r h
 let ad:Nat->bg:=λi=>match slot V i with
  |.at a _=>a
  |.no=>0
 have Y:∀{i a p},slot V i=.at a p->ad i=a:=λ{i a p} z=>by simp only[ad,z]
 refine⟨sh.with (λj=>(Jh (T.map ad) i).getD j .none),s,?_,⟨os,sh⟩,V.take k,T.map ad,rfl,(DK o).1,λa p e=>hs a p ((DK o).2 a p e),?_,?_,λj p y=>?_,h⟩
 .show View S N (flV fl) _ _ _
  refine λt u hi ru=>⟨hi,L2.refl _ _ _ _,r.rep (λj O a p B z y=>(X1p (Gg (as:=T.map ad) (i:=i) (j:=j) (a:=a) (by rw[aM,B];exact congrArg a0 (Y z))) λn e=>?_)) (λr=>r) (λZ d=>d) ru⟩
  rw[e];exact .loc _ _
 .refine b6.mpr (List.Pairwise.imp_of_mem (λ{i j} hi B hne e=>(X1p (gj hi) λp y=>(X1p (gj B) λq hq=>(An (f.at_ p i y) λZ Z0=>(X2pp Z0 λa o1 z1 Z=>(An (f.at_ q j hq) λZ Z1=>(X2pp Z1 λb o2 z2 Z=>?_))))))) f.nd)
  rw[Y z1,Y z2]at e;subst e;exact hne (Bl o z1 z2)
 .rw[aj];exact f.len
 .have B:j<T.length:=by
   rw[f.len]
   rcases bO j os.length with z|z
   .exact z
   .have y:os[j]?=a0 p:=y
    rw[aZ z]at y;exact nS y
  obtain⟨O,hi'⟩:∃O,T[j]?=a0 O:=⟨_,ax B⟩;refine An (f.at_ j O hi') λhk Z2=>X2ppp Z2 λa o' z U Z=>?_;have y:os[j]?=a0 p:=y;rw[y]at U;obtain rfl:=ae U;refine⟨a,by rw[aM,hi'];exact congrArg a0 (Y z),hs.at o z,?_⟩
  cases e:Av (V.take k) a with
  |none=>rfl
  |some p' =>
   refine X1p (Bc e) λq zq=>An (BF zq) λhq zq=>?_
   have:=Bl o zq z
   omega
end
section
variable {S:Sta}{W:Wd}
theorem Cq:∀{V:LS}{n:Nat},Av (V++aP n .no)=Av V
 |[],0=>rfl
 |[],n+1=>by funext a;exact congrFun (Cq (V:=[]) (n:=n)) a
 |.no::r,n=>by funext a;exact congrFun (Cq (V:=r) (n:=n)) a
 |.at b o::r,n=>by
  funext a
  have:=congrFun (Cq (V:=r) (n:=n)) a
  show (if a=b then a0 o else Av (r++aP n .no) a)=if a=b then a0 o else Av r a;rw[this]
theorem Da:∀{V:LS}{n:Nat},okS V->okS (V++aP n .no)
 |[],0,_=>trivial
 |[],n+1,k=>Da (V:=[]) (n:=n) k
 |.no::r,n,k=>Da (V:=r) k
 |.at b o::r,n,k=>⟨(congrFun (Cq (V:=r) (n:=n)) b).trans k.1,Da (V:=r) k.2⟩
theorem HD(m:M)(n:Nat):vr (m++aP n aa)=vr m:=by
 funext i
 unfold vr;rw[aD,aD]
 rcases bO i m.length with h|h
 .rw[cq h]
 .rw[bo h,aZ h]
  rw[dX]
  split<;>rfl
theorem XR.mono(k:∀c V,X c V->X' c V)(h:XR F X e s):XR F X' e s:=by
 obtain⟨T,c,V',Ak,m',y,h,x,o⟩:=h;exact⟨T,c,V',Ak,m',y,h,k _ _ x,o⟩
theorem D8{K:KR}{X:XL}{Q:AV->L0->Prop}(T:Mf S W k Φ)(u:IsFn S fa c)(o:okS V)(h:fnW Φ c rs nv ns avs V K X)
  (y:∀{fl:Fl}{m:L4}{τ:LS}{s:L0},okS τ->Sub τ s->CA rs V.length (flV fl) τ K->RetK S Q fl m s):Mi S (k+1) (.ref fa) avs (Av V) Q (Up X):=by
 refine Mi.body u h.1 λF O ht Y d B=>?_;have x:Xo F (λe τ=>X e (τ.take V.length)) Y:=⟨λe s z=>d e s (z.mono λc t z=>by
  obtain⟨τ,hs,ok,z⟩:=z;exact⟨τ.take V.length,λa p e=>hs a p ((DK ok).2 a p e),(DK ok).1,z⟩),B⟩
 have:=BV T c.body _ F (dJ O.symm) Y x _ _ _ (Da (n:=ns) o) h.2
 rw[HD,Fb,Cq]at this;refine SsT.mono this λfl m s z=>?_;obtain⟨U,τ,em,hs,ok,z⟩:=z;exact y ok hs z
theorem FT:∀{os:List Mg}{as:List bg}{i:Nat}{τ:LS}{s:L0}{acc:List AV}{K:List AV->LS->Prop},okS τ->Sub τ s->as.Nodup->as.length=os.length->(∀(j:Nat)(o:Mg),os[j]?=a0 o->∃a,as[j]?=a0 a/\s a=a0 o/\Av τ a=aa)->Mb os i τ acc K->∃B,okS B/\Sub B s/\K (acc++Jh as i) B
 |[],[],i,τ,s,acc,K,k,hs,_,_,_,h=>⟨τ,k,hs,by rw[show Jh [] i=[] from rfl,aF];exact h⟩
 |o::os,a::as,i,τ,s,acc,K,k,hs,nd,hl,ha,h=>by
  refine X1ppp (ha 0 o rfl) λa' e y T=>?_;obtain rfl:=ae e;rw[bG]at nd;have f:Fits τ i (.at a o):=λZ Z e=>by cases e;exact .inl T
  have sub:=Fh k f
  have:=FT (os:=os) (as:=as) (i:=i+1) (s:=s) (DQ k f) (λb p e=>by
   have:=sub b p e
   by_cases z:b=a
   .clear nd hl ha e T f sub;subst z;rw[L0.set_self]at this;obtain rfl:=ae this;exact y
   .rw[L0.set_ne _ _ z]at this;exact hs b p this) nd.2 (fA hl) (λj p u=>by
    refine X1ppp (ha (j+1) p u) λb O d nb=>⟨b,O,d,?_⟩
    cases e:Av (τ.set i (.at a o)) b with
    |none=>rfl
    |some U =>
     have:=sub b U e
     have ne:b≠a:=λz=>nd.1 (by clear nd hl ha e y T f sub;subst z;exact ah O)
     rw[L0.set_ne _ _ ne,nb]at this;exact nS this) (h a)
  exact X1ppp this λB k' Y h'=>⟨B,k',Y,by rw[aH]at h';exact h'⟩
 |[],_::_,_,_,_,_,_,_,_,_,hl,_,_=>by cases hl
 |_::_,[],_,_,_,_,_,_,_,_,hl,_,_=>by cases hl
theorem OutF.up{K:KV}{v:AV}{s:L0}(h:OutF (λr τ=>Fz aa r τ K) v s):Up K v s:=by
 obtain⟨r,τ,rfl,k,hs,h⟩:=h;exact⟨τ,hs,k,h⟩
theorem OutM.up{K:KV}{v:AV}{s:L0}(h:OutM i (λr τ=>Fz (a0 i) r τ K) v s):Up K v s:=by
 obtain⟨r,τ,as,rfl,k,hs,y,len,at_,h⟩:=h;exact X1ppp (FT k hs y len at_ h) λB k' Y h=>⟨B,Y,k',h⟩
theorem CB:∀{y:List AV}{n:Nat}{vals:List a8},RepL cv h D y vals->RepL cv h D (Bk y n) vals
 |[],_,_,r=>r
 |x::l,n,vals,r=>by
  refine X2lpp vals r.inv λv d B O=>?_;unfold Bk
  cases x with|loc a i=>rw[show v=.ref a from B.inv];exact .cons (.loc _ _) (CB O)|_=>exact .cons B (CB O)
theorem Mi.relab(h:Mi S k f (Bk avs n) V Q X):Mi S k f avs V Q X:=λN A vals s O hi U=>h N A vals s O hi (CB U)
structure Mh(Φ:Tab)(c:At)(rs:Rs)(nv ns:Nat)(f:FS):Prop where
 spec:∀avs V K X,f.spec avs V K X->fnW Φ c rs nv ns avs V K X
 pure:∀avs v,f.pure avs=a0 v->∀K:KR,K ⟨[],.val v⟩ []->fnW Φ c .val nv ns avs [] K BU
set_option tactic.hygienic true in
theorem Snd.of{k:Nat}{fv:a8}{f:FS}(h1:∀y V K X,okS V->f.spec y V K X->Mi S k fv y (Av V) (OutF K) (Up X)/\∀i,Mi S k fv y (Av V) (OutM i K) (Up X))
  (h2:∀y v,f.pure y=a0 v->Mi S k fv y (Av []) (OutF λr Z=>r=⟨[],.val v⟩) (Up BU)):Snd S k fv f:=by
 intro F B m mu y V K X o q;unfold G6 at q
 split at q
 .rename_i v hv
  refine CT.own (Mi.mono (Mi.frame (V:=Av V) (λa p e=>by exact nS e) (h2 y v hv)) (λa s z=>?_) λc s z=>?_) B
  .obtain⟨t,⟨r,τ,e,_,_,e'⟩,T,u,_⟩:=z
   subst e';subst e;exact⟨V,λa p e=>u a p e rfl,o,q⟩
  .obtain⟨t,⟨τ,_,_,z⟩,_⟩:=z
   exact z.elim
 .split at q
  .have q:=h1 _ _ _ _ o q
   cases mu with|none=>exact CT.own (Mi.mono q.1 (λa s z=>z.up) λc s z=>z) B|some i=>exact CT.own (Mi.mono (q.2 i) (λa s z=>z.up) λc s z=>z) B
  .split at q
   .rename_i hn
    have n:=DX hn;refine An (Kh (ix:=AO y) o n) λkp hp=>?_;have q:=h1 _ _ _ _ kp q;have Y:∀{τ:LS}{t s:L0},okS τ->Sub τ t->(∀a p,t a=a0 p->s a=a0 p)->(∀a p,Av V a=a0 p->Av ((AO y).map (slot V)) a=aa->s a=a0 p)->(∀a,Dom t a->Dom (Av ((AO y).map (slot V))) a\/Av V a=aa)->okS (wb V (AO y) τ)/\Sub (wb V (AO y) τ) s:=λ{τ t s} U ht T u O =>
     wb_ok o n U (ht.trans T) u λa d=>O a (by refine X1p (Cl d) λp e=>?_;exact By (ht a p e))
    have xx:∀c s,FrK (Av ((AO y).map (slot V))) (Av V) (Up λc V'=>X c (wb V (AO y) V')) c s->Up X c s:=λc s z=>by
     obtain⟨t,⟨τ,ht,U,z⟩,T,u,O⟩:=z;exact An (Y U ht T u O) λk1 hb=>⟨_,hb,k1,z⟩
    cases mu with
    |none =>
     refine CT.own (Mi.mono (Mi.frame hp (Mi.relab q.1)) (λa s z=>?_) xx) B;obtain⟨t,⟨r,τ,e,U,ht,z⟩,T,u,O⟩:=z;refine An (Y U ht T u O) λk1 hb=>?_;subst e;exact⟨_,hb,k1,z⟩
    |some i =>
     refine CT.own (Mi.mono (Mi.frame hp (Mi.relab (q.2 i))) (λa s z=>?_) xx) B;obtain⟨t,⟨r,τ,as,e,U,ht,nd,len,at_,z⟩,T,u,O⟩:=z;refine An (Y U ht T u O) λk1 hb=>?_;subst e;obtain⟨τ',k',hs',z⟩:=FT k1 hb nd len (λj p hp=>by
      refine X1ppp (at_ j p hp) λa h2 h3 h4=>⟨a,h2,T a p h3,?_⟩
      cases e:Av (wb V (AO y) τ) a with
      |none=>rfl
      |some p' =>
       refine X1p (Bc e) λjj Z=>?_
       rcases C7 n Z with⟨n1,z1⟩|⟨p1,e1,z1⟩
       .rcases O a (By h3)with w1|w1
        .refine X1p (Cl w1) λp2 e2=>X1p (Bc e2) λp3 z3=>X1pp (BK z3) λi' e4 z4=>?_
         have:=Bl o z1 z4
         clear z4;subst this;exact(n1 (ah e4)).elim
        .rw[Az o z1]at w1;exact nS' w1
       .rw[Az U z1]at h4;exact nS' h4) z
     exact⟨τ',hs',k',z⟩
   .exact q.elim
theorem Snd.fn(T:Mf S W k Φ)(O:IsFn S fa c)(h:Mh Φ c rs nv ns f):Snd S (k+1) (.ref fa) f :=
 Snd.of (λy V K X o q=>⟨D8 T O o (h.spec _ _ _ _ q) λok hs z=>Cz ok hs z,λi=>D8 T O o (h.spec _ _ _ _ q) λok hs z=>HN ok hs z⟩)
  λy v B=>D8 (V:=[]) T O trivial (h.pure y v B _ rfl) λok hs z=>Cz ok hs z
theorem KeyT.fn(T:Mf S W k Φ)(hf:IsFn S fa c)(h:Mh Φ c rs nv ns f)(e:∀x p,ky x=a0 p->f.pure [x]=a0 (sp p))(x:AV)(u:(ky x).isSome=a6):KeyT S (k+1) (.ref fa) (Dz ky) [x]:=by
 intro B U V Q q;obtain rfl:=ay.mp U
 cases hp:ky B with
 |none=>rw[hp]at u;exact nF u
 |some p =>
  have hk:Dz ky B=p:=by unfold Dz;rw[hp]
  rw[hk]at q;have d:Mi S (k+1) (.ref fa) [B] (Av []) (OutF λr Z=>r=⟨[],.val (sp p)⟩) (Up BU):=D8 (V:=[]) T hf trivial (h.pure [B] _ (e B p hp) _ rfl) λok hs z=>Cz ok hs z;refine λN A vals s O hi rl=>dH (Mi.frame (V:=V) (λa p e=>by exact nS e) d N A vals s O hi rl) λr s' z=>?_
  cases r with
  |error e =>
   obtain⟨ea,c,t,Ak,h1,d,h3,h4,y,⟨τ,_,_,z⟩,_⟩:=z;exact z.elim
  |ok fl =>
   cases fl with
   |ret v =>
    obtain⟨av,t,st,i,ra,y,⟨r,τ,e,_,_,e'⟩,s1,s2,_⟩:=z;subst e';subst e;exact An (i.drop (V':=V) λa p e=>s2 a p e rfl) λi2 Y=>⟨_,V,st.trans (Y.wide λZ h=>h.elim),i2,Rep.step Y (λZ h=>h.elim) (λZ h=>h.elim) ra,q⟩
   |_=>exact z.elim
end
section
end
section
variable {S:Sta}{W:Wd}
noncomputable def AV.loc?:AV->Option bg
 |.loc a _=>a0 a
 |_=>aa
noncomputable def floor?(τ:LS):Option (((bg×bg)×bg×List (Str×AV))×((Str×AV)×(Str×AV))×bg×bg×List (Ah×AV)):=(fields? τ 0).bind λf=>(two? f.2.2).bind λp=>p.2.2.loc?.bind λe=>(slot τ 2).obj?.bind λg=>g.2.dict?.bind λl=>a0 (f,p,e,g.1,l)
def madeW(n:Nat)(x dx:bg)(τ:LS)(K:KR):Prop:=match floor? τ with
 |some q=>(q.1.1.1=x/\q.1.1.2=dx/\q.1.2.1=dx/\q.2.2.2.1=q.2.2.1/\q.2.1.1.1 = "texts"/\q.2.1.2.1 = "own")/\K ⟨[],.val (.inst (FW q.2.1.1.2 (.dict q.2.2.2.2)))⟩ ((τ.drop 3).take n)
 |aa=>False
theorem AV.loc?_out{a:AV}{x:bg}(h:a.loc?=a0 x):∃i,a=.loc x i:=by
 cases a with
 |loc y i=>obtain rfl:=ae h;exact⟨i,rfl⟩
 |_=>exact(Al rfl h).elim
inductive MadeV(n:Nat)(x dx:bg)(τ:LS)(K:KR):Prop
 |mk (t:AV)(e i:_)(l:List (Ah×AV))(z0:slot τ 0=.at x (.inst dx))(z1:slot τ 1=.at dx (.attrs (FW t (.loc e i))))(z2:slot τ 2=.at e (.dict l))(h:K ⟨[],.val (.inst (FW t (.dict l)))⟩ ((τ.drop 3).take n)):MadeV n x dx τ K
theorem madeW.out{τ:LS}{K:KR}(h:madeW n x dx τ K):MadeV n x dx τ K:=by
 unfold madeW at h
 cases q:floor? τ with
 |none=>rw[q]at h;exact h.elim
 |some r =>
  rw[q]at h;refine X1pp (AC q) λf h1 q=>X1pp (AC q) λp h2 q=>X1pp (AC q) λe Y q=>X1pp (AC q) λg d q=>X1pp (AC q) λl u q=>?_;obtain rfl:=ae q;obtain⟨⟨rfl,rfl,B,y,T,U⟩,h⟩:=h;refine An (fields?_out h1) λz O=>?_;dsimp only at B y T U h;refine X1p (AV.loc?_out Y) λi e3=>⟨p.1.2,e,i,l,z,?_,?_,h⟩
  .rw[O,B,Fe h2 T U,e3]
  .rw[obj?_out d,y,Mg.dict?_out u]
def makeW(Φ:Tab)(c:At)(nv ns:Nat)(avs:List AV)(V:LS)(K:KR)(X:XL):Prop :=
 avs.length+1=c.n/\∀x dx,wpSs Φ c.body (λe τ=>X e ((τ.drop 3).take V.length)) (a0 (.loc x 0)::avs.map a0++aP nv aa) (.at x (.inst dx)::.at dx (.attrs [])::.no::V++aP ns .no) (λfl Z τ=>flV fl=.none/\madeW V.length x dx τ K)
inductive Made(n:Nat)(x dx:bg)(K:KR)(v:AV)(s:L0):Prop
 |mk (τ:LS)(e:v=.none)(o:okS τ)(hs:Sub τ s)(h:madeW n x dx τ K):Made n x dx K v s
theorem Ld{K:KR}{X:XL}{x dx:bg}(T:Mf S W k Φ)(O:IsFn S fa c)(o:okS (.at x (.inst dx)::.at dx (.attrs [])::.no::V))(h:makeW Φ c nv ns avs V K X) :
  Mi S (k+1) (.ref fa) (.loc x 0::avs) (Av (.at x (.inst dx)::.at dx (.attrs [])::.no::V)) (Made V.length x dx K) (Up λe τ=>X e ((τ.drop 3).take V.length)):=by
 refine Mi.body O h.1 λF U ht Y d B=>?_
 have:=BV T c.body _ F (dJ U.symm) Y ⟨d,B⟩ _ _ _ (Da (n:=ns) o) (h.2 x dx)
 rw[Cq,show (a0 (AV.loc x 0)::avs.map a0++aP nv aa)=(AV.loc x 0::avs).map a0++aP nv aa from rfl,HD,Fb]at this
 refine SsT.mono this λfl m s z=>?_;obtain⟨u,τ,em,hs,ok,e,z⟩:=z;refine λN=>⟨flV fl,s,?_,τ,e,ok,hs,z⟩;show View S N (flV fl) s (flV fl) s;exact View.same
theorem JW:slot (V.drop n) p=slot V (n+p):=by
 unfold slot;rw[aD,aD,List.getElem?_drop]
set_option tactic.hygienic true in
theorem Snd.make(T:Mf S W k Φ)(hi:eM S.K (.ref W.C) "__init__"=a0 (a0 (.ref fI)))(ht:isFn S.K (.ref fI)=a6)(hf:IsFn S fI c)(hp:∀y,f.pure y=aa)(hw:f.whole=a7)
  (h:∀y V K X,f.spec (Bk y 0) V K X->makeW Φ c nv ns (Bk y 3) V K X):Snd S (k+2) (.ref W.C) f:=by
 intro F hk m mu y V K X o q;unfold G6 at q;rw[hp,hw]at q;dsimp only at q
 split at q
 .rename_i hn
  have n:=DX hn;refine An (Kh (ix:=AO y) o n) λkp hps=>?_;have q:=h _ _ _ _ q;refine CT.make (k:=k+1) T.good.floor hi ht hk λx dx nx ndx hne=>?_;have zx:∀{i a p},slot V i=.at a p->a≠x/\a≠dx:=λz=>⟨λe=>nx (e▸By (Az o z)),λe=>ndx (e▸By (Az o z))⟩;have nL:∀{a p},Av ((AO y).map (slot V)) a=a0 p->a≠x/\a≠dx:=λe=>by
   exact X1p (Bc e) λp z=>X1pp (BK z) λi Z z=>zx z
  have nn:∀{a},(a=x\/a=dx)->Av ((AO y).map (slot V)) a=aa:=λ{a} e=>by
   cases z:Av ((AO y).map (slot V)) a with|none=>rfl|some p=>exact(e.elim (nL z).1 (nL z).2).elim
  have oI:okS (.at x (.inst dx)::.at dx (.attrs [])::.no::(AO y).map (slot V)):=by
   refine⟨?_,nn (.inr rfl),kp⟩;show (if x=dx then _ else Av ((AO y).map (slot V)) x)=_;rw[if_neg hne];exact nn (.inl rfl)
  have sI:∀a p,Av (.at x (.inst dx)::.at dx (.attrs [])::.no::(AO y).map (slot V)) a=a0 p->((Av V).set dx (.attrs [])).set x (.inst dx) a=a0 p:=λa p e=>by
   have e:(if a=x then a0 (Mg.inst dx) else if a=dx then a0 (Mg.attrs []) else Av ((AO y).map (slot V)) a)=a0 p:=e
   by_cases z:a=x
   .rw[if_pos z]at e;rwa [z,L0.set_self]
   .rw[if_neg z]at e
    rw[L0.set_ne _ _ z]
    by_cases z':a=dx
    .rw[if_pos z']at e;rwa [z',L0.set_self]
    .rw[if_neg z']at e
     rw[L0.set_ne _ _ z'];exact hps _ _ e
  have lab:∀{l:List AV}{Q:AV->L0->Prop}{Y:KX}{s:L0},Mi S (k+1) (.ref fI) (.loc x 0::Bk l 3) s Q Y->Mi S (k+1) (.ref fI) (.loc x 0::l) s Q Y:=λ{l Q Y s} h N A vals u room hi rl=>h N A vals u room hi (by
   exact X2lpp vals rl.inv λv r r1 r2=>.cons r1 (CB r2))
  have hdel:∀{τ:LS}{t s:L0}{as:List bg},okS τ->Sub τ t->(∀a p,t a=a0 p->s a=a0 p)->(∀a p,((Av V).set dx (.attrs [])).set x (.inst dx) a=a0 p->Av (.at x (.inst dx)::.at dx (.attrs [])::.no::(AO y).map (slot V)) a=aa->s a=a0 p)->(∀a,Dom t a->Dom (Av (.at x (.inst dx)::.at dx (.attrs [])::.no::(AO y).map (slot V))) a\/((Av V).set dx (.attrs [])).set x (.inst dx) a=aa) ->
    (∀a∈as,∃j p,j<3/\slot τ j=.at a p)->okS (wb V (AO y) ((τ.drop 3).take ((AO y).map (slot V)).length))/\Sub (wb V (AO y) ((τ.drop 3).take ((AO y).map (slot V)).length)) (s.dels as):=λ{τ t s as} U ht s1 s2 nw has=>by
   have zt:∀{p a q},slot ((τ.drop 3).take ((AO y).map (slot V)).length) p=.at a q->slot τ (3+p)=.at a q:=λz=>by
    have:=(BF z).2;rw[JW]at this;exact this
   have kt':okS ((τ.drop 3).take ((AO y).map (slot V)).length):=EL λi j a p q h1 h2=>by
    have:=Bl U (zt h1) (zt h2);exact aq (lin [i,j] [] (.b V0 V1) [.d (.A K3 V0) (.A K3 V1)] rfl this) (lin [i,j] [] (.b V1 V0) [.D (-1) (.A K3 V0) (.A K3 V1)] rfl this)
   have dom1:∀{a p q},slot τ (3+p)=.at a q->Dom (Av ((AO y).map (slot V))) a\/Av V a=aa:=λ{a p q} z=>by
    have dt:Dom t a:=By (ht.at U z)
    by_cases zx':a=x
    .exact .inr (by rw[zx'];exact Dc nx)
    by_cases zd:a=dx
    .exact .inr (by rw[zd];exact Dc ndx)
    rcases nw a dt with B|B
    .left
     refine X1p (Cl B) λp' e=>?_;have e:(if a=x then a0 (Mg.inst dx) else if a=dx then a0 (Mg.attrs []) else Av ((AO y).map (slot V)) a)=a0 p':=e;rw[if_neg zx',if_neg zd]at e;exact By e
    .rw[L0.set_ne _ _ zx',L0.set_ne _ _ zd]at B;exact .inr B
   refine wb_ok o n kt' (λa p e=>?_) (λa p e e'=>?_) λa d=>?_
   .refine X1p (Bc e) λi z=>?_
    have z:=zt z;unfold L0.dels;rw[if_neg]
    .exact s1 _ _ (ht.at U z)
    .refine λq=>X2pp (has a q) λj p' hj z'=>?_
     have:=Bl U z z';exact lin [j,i] [] .no [.c V0 K3,.d (.A K3 V1) V0] rfl hj this
   .have O:a≠x/\a≠dx:=by refine X1p (Bc e) λi z=>?_;exact zx z
    unfold L0.dels;rw[if_neg]
    .refine s2 a p (by rwa [L0.set_ne _ _ O.1,L0.set_ne _ _ O.2]) ?_
     show (if a=x then _ else if a=dx then _ else Av ((AO y).map (slot V)) a)=_
     rwa [if_neg O.1,if_neg O.2]
    .refine λq=>X2pp (has a q) λj p' hj z'=>?_
     have dt:Dom t a:=By (ht.at U z')
     rcases nw a dt with B|B
     .refine X1p (Cl B) λp2 e2=>?_
      have e2:(if a=x then a0 (Mg.inst dx) else if a=dx then a0 (Mg.attrs []) else Av ((AO y).map (slot V)) a)=a0 p2:=e2;rw[if_neg O.1,if_neg O.2,e']at e2;exact nS e2
     .rw[L0.set_ne _ _ O.1,L0.set_ne _ _ O.2,e]at B;exact nS' B
   .exact X1p (Cl d) λp e=>X1p (Bc e) λi z=>dom1 (zt z)
  refine Mi.mono (Mi.frame sI (lab (Ld T hf oI q))) (λv s z=>?_) λc s z=>?_
  .obtain⟨t,⟨τ,e,U,ht,z⟩,s1,s2,nw⟩:=z
   refine⟨e,λN=>?_⟩;obtain⟨tx,f',i',l,z0,z1,z2,z⟩:=z.out
   ··.refine⟨_,_,View.inst (fs':=FW tx (.dict l)) (as:=[f']) (s1 _ _ (ht.at U z0)) (s1 _ _ (ht.at U z1)) (FrozeF.cons (as:=[]) (.same _) (FrozeF.cons (as:=[f']) (bs:=[]) (.dict (s1 _ _ (ht.at U z2))) .nil)),?_⟩
      obtain⟨k1,h1⟩:=hdel (as:=[x,dx,f']) U ht s1 s2 nw (λa ha=>by
       rcases az.mp ha with rfl|ha
       .exact⟨0,_,by decide,z0⟩
       .rcases az.mp ha with rfl|ha
        .exact⟨1,_,by decide,z1⟩
        .have:=ay.mp ha;clear z1 ha;subst this;exact⟨2,_,by decide,z2⟩)
      cases mu with|none=>exact⟨_,h1,k1,z⟩|some i=>exact⟨_,h1,k1,z⟩
  .obtain⟨t,⟨τ,ht,U,z⟩,s1,s2,nw⟩:=z
   obtain⟨k1,h1⟩:=hdel (as:=[]) U ht s1 s2 nw (λa ha=>by exact nM ha)
   exact⟨_,λa p e=>(CU (h1 a p e)).2,k1,z⟩
 .exact q.elim
end
section
variable {S:Sta}{W:Wd}
noncomputable def L4.del(m:L4)(i:Nat):L4:=λj=>if j=i then aa else m j
theorem Ky{F:Fx S}{m:L4}{V:L0}{i:Nat}{x:Str}{pos:Pos}{s:ag}{X:a8->ag->Prop}{Q':Unit->ag->Prop}(hf:F.sc.lookup x≠a0 .free)(hx:IsV F.tb F.sc x i)(hs:F.St m V s)
  (hQ:∀s',L2 F.P F.O V s V s'->F.St (L4.del m i) V s'->Q' () s'):wpAny (model S.prog S.w) F.A (do bindName F.env x .none;unbindBehindTheSuite F.env x pos) Q' X s:=by
 refine ac (wpAny_bindName (BJ (av:=.none) hf hx hs .none λAc Ai Ad=>?_));unfold unbindBehindTheSuite;refine wpAny_onRaise ?_;unfold unbindName;refine ac (wpAny_point (ac ?_));obtain⟨mc,cm,n,c,o,ap,cl,rr⟩:=Ad.loc;have kd:∀y,F.env.kindOf y=F.sc.lookup y:=λZ=>rfl;have ne:∀{y:Str}{j:Nat}{bv:AV},ixS F.tb y=a0 j->L4.del m i j=a0 bv->y≠x/\L4.set m i .none j=a0 bv:=by
  intro y j bv hj hm;unfold L4.del at hm
  by_cases q:j=i
  .rw[if_pos q]at hm;exact nS hm
  .rw[if_neg q]at hm
   exact⟨λe=>by clear hf;subst e;rw[hx.ix]at hj;exact q (ae hj).symm,by unfold L4.set;rwa [if_neg q]⟩
 have hxm:L4.set m i .none i=a0 .none:=if_pos rfl
 rcases hx.kind with q|q|q
 .have hp:(F.env.scope.kind == .class || (F.env.scope.kind == .module && F.env.locals != F.env.globals))=a7:=by rw[F.fk];rfl
  have B:=rr x i .none hx.ix hxm;rw[kd,q]at B;refine X1pp B λv B Z=>?_;unfold deleteName;simp only[(kd x).trans q,hp];rw[if_neg (by decide)]
  refine ac (wpAny_nsDel_keeps n λh' v' hn u=>?_);rw[B];simp only[gJ,gd,bM,if_false];have hk:∀U oc,U≠F.env.locals->Ac.heap.get? U=a0 oc->h'.get? U=a0 oc:=λU oc ne e=>u.extBut U oc ne e;have hL:∃oo,h'.get? F.env.locals=a0 oo:=by refine X3pp hn λoo Z Z e Z=>?_;exact⟨oo,e⟩
  have e0:Ext (F.D V) Ac.heap h':=Ext.of_but λU oc d e=>hk U oc (λq=>d (.inr (q▸Ad.own _ (.inl rfl)))) e;have Y:Loc S.cv S.g F.tb F.env (L4.del m i) F.N V h':=by
   exact⟨_,cm,hn,λy U hy=>(X1pp (c y U hy) λob e hd=>⟨ob,hk U ob (cl y U hy) e,hd⟩),o,ap,cl,λy j bv hj hm=>(An (ne hj hm) λny hm'=>LocAt.map (rr y j bv hj hm') (λh2=>h2.ext e0 λZ h=>.inl h) (λZ h1=>(if_neg ny).trans h1) (λZ h1=>h1))⟩
  exact An (St.own_turn (tk:=Ac.toks) Ad (.inl rfl) hk hL Y) λst2 h2=>ai (wpAny_point (hQ _ (Ai.trans st2) h2))
 .refine X1p (F.fc x ((kd x).trans q)) λU T=>?_
  have B:=rr x i .none hx.ix hxm;rw[kd,q]at B;refine X2ppp B λv Z Z B Z=>?_;unfold deleteName;simp only[(kd x).trans q];refine ac (wpAny_cellOf T (ac (wpAny_cellGet (c x U T) ?_)));rw[B];simp only[gJ,if_true];refine wpAny_cellSet (c x U T) λh' hv' u=>?_;have hk:∀d od,d≠U->Ac.heap.get? d=a0 od->h'.get? d=a0 od:=λd od ne e=>u.extBut d od ne e;have hL:∃oo,h'.get? U=a0 oo:=by refine X1pp hv' λoo e Z=>?_;exact⟨oo,e⟩
  have e0:Ext (F.D V) Ac.heap h':=Ext.of_but λd od dd e=>hk d od (λq=>dd (.inr (q▸Ad.own _ (.inr ⟨x,T⟩)))) e;have Y:Loc S.cv S.g F.tb F.env (L4.del m i) F.N V h':=by
   refine⟨mc,λy=>if y=x then aa else cm y,n.sameBut u (dO (cl x U T)),λy d hy=>?_,o,ap,cl,λy j bv hj hm=>?_⟩
   .by_cases e:y=x
    .clear hf hx ne q B;subst e;rw[T]at hy;obtain rfl:=ae hy;simp only[if_true];exact hv'
    .simp only[if_neg e]
     exact X1pp (c y d hy) λob eo hd=>⟨ob,hk d ob (λz=>e (ap y x d hy (z▸T))) eo,hd⟩
   .exact An (ne hj hm) λny hm'=>LocAt.map (rr y j bv hj hm') (λh2=>h2.ext e0 λZ h=>.inl h) (λZ h1=>h1) (λZ h1=>(if_neg ny).trans h1)
  exact An (St.own_turn (tk:=Ac.toks) Ad (.inr ⟨x,T⟩) hk hL Y) λst2 h2=>wpAny_point (hQ _ (Ai.trans st2) h2)
 .exact absurd q hf
open Classical in
noncomputable def Ic(h:Heap)(P:bg->Prop):Heap:=hideAll h ((bq h.objs.size).filter λa=>decide (¬P a))
theorem Cc(e:h.get? a=a0 o)(p:P a):(Ic h P).get? a=a0 o :=
 hideAll_get _ e λq=>by
  have:=(cA.mp q).2
  simp[p]at this
theorem DV(e:(Ic h P).get? a=a0 o):h.get? a=a0 o/\P a:=by
 have y:=of_hideAll _ e;refine⟨y,dB λn=>?_⟩
 have:(Ic h P).get? a=aa:=hideAll_none _ (cA.mpr ⟨fL.mpr (ba y),by simp[n]⟩)
 rw[this]at e;exact nS e
theorem St.land{F:Fx S}{m:L4}{V:L0}{Ak s':ag}{base:Heap}{l:List Env}(hs:F.St m V Ak)(hA:F.A.frames=a0 l)(U:∀b o,Ak.heap.get? b=a0 o->¬GP l b->base.get? b=a0 o)
  (stays:base.StaysIn s'.heap) (up:Ak.heap.UpToSlots s'.heap) (u:s'.gens=Ak.gens/\s'.drawn=Ak.drawn/\s'.os=Ak.os):F.St m V s':=by
 have keep:∀b o,Ak.heap.get? b=a0 o->¬F.P b->s'.heap.get? b=a0 o:=λb o e n=>stays b o (U b o e λq=>n ⟨l,hA,q⟩);have z:∀b o,Ak.heap.get? b=a0 o->F.P b->(∀vs,o.data≠.fields vs)/\∃B,s'.heap.get? b=a0 { o with slots:=B }:=λb o e p=>by
  refine X1pp (hs.inv.Nin b (hs.pN b p)) λo' y nf=>?_;rw[e]at y;obtain rfl:=ae y;exact⟨nf,up b o e nf⟩
 have st:L2 F.P noO V Ak V s':=by
  refine⟨⟨λb o e d=>keep b o e λq=>d (.inr (.inr q))⟩,λb o e p Z Z=>?_,λZ h=>.inl h,λb o e=>?_⟩
  .refine An (z b o e p) λZ Z0=>X1p Z0 λB y=>?_;exact⟨_,y,rfl,rfl,rfl⟩
  .by_cases p:F.P b
   .refine An (z b o e p) λZ Z1=>X1p Z1 λB y=>?_;exact⟨_,y⟩
   .exact⟨o,keep b o e p⟩
 have gP:∀{b o},S.g.get? b=a0 o->¬F.P b:=λ{b o} e p=>by
  refine X1pp F.room.fr λl' el h=>X1pp p λl2 Y Z2=>X1pp Z2 λev O hf=>?_;rw[el]at Y;obtain rfl:=ae Y;refine An (h ev O) λZ Z3=>X1ppp Z3 λL h2 Z h4=>?_;rw[hf]at h2;obtain rfl:=ae h2;rw[h4]at e;exact nS e
 refine hs.to st ⟨λb o e=>keep b o (hs.inv.keep b o e) (gP e),u.1.trans hs.inv.gens,u.2.1.trans hs.inv.drawn,u.2.2.trans hs.inv.os,hs.inv.σg,hs.inv.σN,λa q=>?_,λa o e=>?_⟩ λZ h=>h
 .refine X1pp (hs.inv.Nin a q) λo e nf=>?_
  by_cases p:F.P a
  .refine An (z a o e p) λZ Z4=>X1p Z4 λB y=>?_;exact⟨_,y,nf⟩
  .exact⟨o,keep a o e p,nf⟩
 .exact(hs.inv.rep a o e).ext (⟨λb T eb d=>keep b T eb λp=>d (.inr (hs.pN b p))⟩:Ext (DN F.N V) Ak.heap s'.heap) (λZ h=>.inl h)
   λT eo=>keep a T eo λp=>hs.inv.σN a (by unfold Dom;rw[e];simp) (hs.pN a p)
theorem Loc.atG(l:Loc cv g tb env m N V h)(k:∀a,Own env a->g'.get? a=aa):Loc cv g' tb env m N V h:=by
 obtain⟨u,U,n,c,o,Y,cl,r⟩:=l;exact⟨u,U,n,c,λa ha=>⟨(o a ha).1,k a ha⟩,Y,cl,r⟩
noncomputable def Fx.hand(F:Fx S){g':Heap}{k:∀b o,S.g.get? b=a0 o->g'.get? b=a0 o}{ea:bg}{hx:∃o vs,g'.get? ea=a0 o/\o.data=.fields vs/\vs[2]?=a0 bn}(b':L0×ag)(room:Room (S.grow g' k ea hx) F.N F.k (F.A.mark (a0 (.ref ea)))):Fx (S.grow g' k ea hx) :=
 ⟨F.A.mark (a0 (.ref ea)),F.tb,F.env,b',F.N,F.k,room,F.fk,F.fg,F.fb,F.fc⟩
inductive Grown(F:Fx S)(m:L4)(V:L0)(s:ag)(ea:bg):Prop
 |mk (g':Heap) (k:∀b o,S.g.get? b=a0 o->g'.get? b=a0 o) (hx:∃o vs,g'.get? ea=a0 o/\o.data=.fields vs/\vs[2]?=a0 bn) (b':L0×ag) (room:Room (S.grow g' k ea hx) F.N F.k (F.A.mark (a0 (.ref ea)))) (st:(F.hand b' room).St m V s)
   (back:∀Ar Ab Aj,(F.hand b' room).St Ar Ab Aj->F.St Ar Ab Aj):Grown F m V s ea
theorem St.grown{F:Fx S}{m:L4}{V:L0}{s:ag}{ea:bg}{T:Obj}{vs:Array a8}(hs:F.St m V s)(he:s.heap.get? ea=a0 T)(hd:T.data=.fields vs)(h2:vs[2]?=a0 bn)
  (nD:¬Dom V ea) (nN:¬F.N ea) (nb:F.b.2.heap.get? ea=aa) :
  Grown F m V s ea:=by
 have k:∀b o,S.g.get? b=a0 o->(Ic s.heap (λa=>S.g.get? a≠aa\/a=ea)).get? b=a0 o:=λb o e=>Cc (hs.inv.keep b o e) (.inl (by rw[e];simp))
 have hx:∃o vs,(Ic s.heap (λa=>S.g.get? a≠aa\/a=ea)).get? ea=a0 o/\o.data=.fields vs/\vs[2]?=a0 bn:=⟨T,vs,Cc he (.inr rfl),hd,h2⟩;have B:∀{a},S.g.get? a=aa->a≠ea->(Ic s.heap (λa=>S.g.get? a≠aa\/a=ea)).get? a=aa:=λ{a} h n=>by
  cases q:(Ic s.heap (λa=>S.g.get? a≠aa\/a=ea)).get? a with|none=>rfl|some o=>exact((DV q).2.elim (λz=>z h) n).elim
 have u:∀{a},F.b.2.heap.get? a=aa->a≠ea->(Ic s.heap (λa=>F.b.2.heap.get? a≠aa\/a=ea)).get? a=aa:=λ{a} h n=>by
  cases q:(Ic s.heap (λa=>F.b.2.heap.get? a≠aa\/a=ea)).get? a with|none=>rfl|some o=>exact((DV q).2.elim (λz=>z h) n).elim
 have room:Room (S.grow _ k ea hx) F.N F.k (F.A.mark (a0 (.ref ea))):=by
  exact⟨rfl,X1pp F.room.fr λl el h=>⟨l,el,λev hev=>(An (h ev hev) λh1 Z0=>(X1ppp Z0 λL h2 h3 h4=>⟨h1,L,h2,h3,B h4 λz=>nN (z▸h3)⟩))⟩,F.room.dp,F.room.un⟩
 obtain⟨mc,cm,ns,cc,ow,ap,cl,rr⟩:=hs.loc;refine⟨_,k,hx,(F.b.1,{ F.b.2 with heap:=Ic s.heap (λa=>F.b.2.heap.get? a≠aa\/a=ea) }),room,?_,?_⟩
 .refine⟨⟨λb o e=>(DV e).1,hs.inv.gens,hs.inv.drawn,hs.inv.os,λa d=>B (hs.inv.σg a d) λz=>nD (z▸d),hs.inv.σN,hs.inv.Nin,hs.inv.rep⟩,?_,?_,hs.pN,?_,hs.own,?_⟩
  .exact hs.loc.atG λa ha=>B (ow a ha).2 λz=>nN (z▸hs.own a ha)
  .exact L2.of_keeps (λb o e=>(DV e).1) λa d=>(hs.frm.dom a d).imp id λq=>u q λz=>nD (z▸d)
  .exact λa ha=>u (hs.new a ha) λz=>nN (z▸hs.own a ha)
  .intro a e
   cases q:(Ic s.heap (λa=>S.g.get? a≠aa\/a=ea)).get? a with
   |none=>exact q
   |some o =>
    exfalso
    refine An (DV q) λq1 q2=>?_
    have:(Ic s.heap (λa=>F.b.2.heap.get? a≠aa\/a=ea)).get? a=a0 o:=Cc q1 (q2.imp (λz y=>z (hs.gb a y)) id)
    have O:(Ic s.heap (λa=>F.b.2.heap.get? a≠aa\/a=ea)).get? a=aa:=e;rw[this]at O;exact nS' O
 .refine λAr Ab Aj h=>⟨⟨λb o e=>h.inv.keep b o (k b o e),h.inv.gens,h.inv.drawn,h.inv.os,λa d=>?_,h.inv.σN,h.inv.Nin,h.inv.rep⟩,?_,?_,hs.pN,hs.new,hs.own,hs.gb⟩
  .cases q:S.g.get? a with|none=>rfl|some o=>have e1:=h.inv.σg a d;have e2:=k a o q;exact absurd (e2.symm.trans e1) (by simp)
  .exact h.loc.atG λa ha=>(ow a ha).2
  .have U:L2 F.P noO F.b.1 F.b.2 F.b.1 { F.b.2 with heap:=Ic s.heap (λa=>F.b.2.heap.get? a≠aa\/a=ea) }:=by
    refine⟨⟨λb o e d=>Cc (hs.frm.ext.obj b o e d) (.inl (by rw[e];simp))⟩,λb o e p ho d=>?_,λZ h=>.inl h,λb o e=>?_⟩
    .refine X1pp (hs.frm.frm b o e p ho d) λY O r=>?_;exact⟨Y,Cc O (.inl (by rw[e];simp)),r⟩
    .refine X1p (hs.frm.there b o e) λY O=>?_;exact⟨Y,Cc O (.inl (by rw[e];simp))⟩
   exact U.trans h.frm
theorem CSs.one{st:Internal.S}(h:CSs tb sc ps [st]):∃p,ps=[p]/\CS tb sc p st:=by
 refine X2lpp ps h.inv λp r Y z=>?_;obtain rfl:=z.inv_nil;exact⟨_,rfl,Y⟩
inductive Fell(F:Fx S)(m:L4)(X:KX)(g:Nat)(lt:List Env)(e:a8)(Ac:ag):Prop
 |mk (ea:bg) (c:Nat) (V':L0) (Ak:ag) (base:Heap) (C:bg) (he:e=.ref ea) (fly:FlyY base (F.env::lt) ea (S.cv c) .none Ac.heap) (hbase:∀b o,Ak.heap.get? b=a0 o->¬GP (F.env::lt) b->base.get? b=a0 o) (up:Ak.heap.UpToSlots Ac.heap)
   (rest:Ac.gens=Ak.gens/\Ac.drawn=Ak.drawn/\Ac.os=Ak.os) (st:F.St m V' Ak) (x:X c V') (sub:exmOne S.K (S.cv c) (S.cv g)=a0 a6) (cls:S.cv c=.ref C):Fell F m X g lt e Ac
theorem XF.fell{F:Fx S}{m:L4}{X:KX}{g:Nat}{lt:List Env}{e:a8}{Ac:ag}(z:XF F m X e Ac)(Y:F.A.frames=a0 (F.env::lt))(u:∀c V',X c V'->exmOne S.K (S.cv c) (S.cv g)=a0 a6/\∃C,S.cv c=.ref C):Fell F m X g lt e Ac:=by
 obtain⟨O,c,V',Ak,y,o,BY,d⟩:=z;refine X2ppp o.fly λbase l T fly U=>?_;obtain rfl:l=F.env::lt:=ae (T.symm.trans Y);exact X1p ((u c V' d).2) λC B=>⟨O,c,V',Ak,base,C,y,fly,U,o.up,o.rest,BY,d,(u c V' d).1,B⟩
theorem FlyY.looks(x:FlyY base l ea cls fl h):Looks (model S.prog S.w) h (typeOf (.ref ea)) cls:=by
 refine X5pppppp x.tr λO vs T U B u Y d z y Z=>?_;rw[<- Y];exact(Looks.ld u).andThen .now
inductive Caught(F:Fx S)(m:L4)(V:L0)(s:ag)(ea:bg)(c:Nat):Prop
 |mk (g:Grown F m V s ea)(rx:Rep S.cv s.heap (DN F.N V) (.exc c) (.ref ea)):Caught F m V s ea c
theorem caught{F:Fx S}{m:L4}{V:L0}{Ak s:ag}{base:Heap}{lt:List Env}{ea C:bg}{c:Nat}{fl:a8}(elt:F.A.frames=a0 (F.env::lt))(BY:F.St m V Ak)(L:F.St m V s)(fly:FlyY base (F.env::lt) ea (S.cv c) fl s.heap)(U:∀b o,Ak.heap.get? b=a0 o->¬GP (F.env::lt) b->base.get? b=a0 o)
  (up:Ak.heap.UpToSlots s.heap) (hC:S.cv c=.ref C):Caught F m V s ea c:=by
 obtain⟨oe,vs,T,oT,ts,u,y,B,⟨hv2,hdc⟩,_⟩:=fly.tr;have Y:∀{b o},Ak.heap.get? b=a0 o->b≠ea:=λ{b o} O z=>by
  by_cases p:GP (F.env::lt) b
  .refine X1pp (BY.inv.Nin b (BY.pN b ⟨_,elt,p⟩)) λo' e' nf=>X1p (up b o' e' nf) λsl e4=>?_
   rw[z,u]at e4
   have:=ae e4
   exact nf vs (by rw[this]at B;exact B)
  .have:=U b o O p
   rw[z,fly.new]at this;exact nS this
 have nD:¬Dom V ea:=λd=>by refine X1p (BY.inv.dom_there d) λo O=>?_;exact Y O rfl
 have nN:¬F.N ea:=λd=>by refine X1pp (BY.inv.Nin ea d) λo O Z=>?_;exact Y O rfl
 have nbb:F.b.2.heap.get? ea=aa:=by
  cases z:F.b.2.heap.get? ea with|none=>rfl|some o=>refine X1p (BY.frm.there _ _ z) λo' O=>?_;exact(Y O rfl).elim
 exact⟨St.grown L u B hv2 nD nN nbb,.exc u y ⟨⟨_,B⟩,hdc⟩ (λd=>d.elim nD nN) ⟨C,hC⟩⟩
theorem Mi.try_{c:At}{y:List AV}{V:L0}{Q:AV->L0->Prop}{X:KX}{e:E}{i g:Nat}{hr:List Internal.S}(hf:IsFn S f c)(hn:y.length=c.n)(hb:c.body=[.try_ [.ret e] (.g g) (a0 i) (h0::hr)])
  (hg:Glob S g (S.cv g)) (O:∀c V',X c V'->exmOne S.K (S.cv c) (S.cv g)=a0 a6/\∃C,S.cv c=.ref C)
  (he:∀F:Fx S,F.k=k->ET F (DA y) V e (λa Aa=>RetK S Q (.ret a) (DA y) Aa) (XF F (DA y) X))
  (hh:∀c V',X c V'->∀g' kk x hx,∀F':Fx (S.grow g' kk x hx),F'.k=k->SsT F' (L4.set (DA y) i (.exc c)) V' (h0::hr) (λfl Ar Ab=>RetK S Q fl Ar Ab) NoX):Mi S (k+1) (.ref f) y V Q noX:=by
 refine Mi.body0 hf hn λF hk ht Y y1 y2 ps hc s hs=>?_;rw[hb]at hc;refine X1pp hc.one λp ep hc1=>?_;clear hc;subst ep;refine X6pppppp hc1.inv λZ Z Z Z Z Z Z0 hcb hct hfree hv hch=>?_;clear hc1;subst Z0;refine X2pp hct.inv λZ Z Z1 hgx=>?_;subst Z1;refine X2ppp hch.inv λZ Z Z2 hc0 hcr=>?_;subst Z2;refine X1p ht.top λlt elt=>?_;have hbd:SsT F (DA y) V [.ret e] (λfl m' V'=>∃a,fl=.ret a/\RetK S Q fl m' V') (XF F (DA y) X):=SsT.cons (ST.ret ((he F hk).mono λa Aa q=>⟨a,rfl,q⟩));refine wpAny_execs_cons (wpAny_Try_except (aU (hbd _ hcb s hs) ?_ ?_))
 .intro fl Ac hR1
  obtain⟨fl',m',V',_,h',z,a,rfl,d⟩:=hR1
  cases fl with|ret v=>exact⟨.ret a,m',V',h',z,d⟩|_=>exact z.elim
 intro ev Ac x;obtain⟨ea,c,V',Ak,base,C,hea,fly,U,up,rest,BY,hX,O,hC⟩:=x.fell elt O;subst hea;refine Ga elt ht.frame fly λAg fly₂ JH=>FC fly₂ λAY Hm JG=>?_;have L3:F.St (DA y) V' { Ac with heap:=AY }:=St.land BY elt U Hm.stays ((up.trans JH).trans JG) rest
 refine wpAny_handleBy_cons (codeAny_handlers_test ?_) (by intro q;cases q)
 refine Dp hgx hg L3 ((exm_one (S.X.keeps L3.inv.keep) Hm.looks O).here ?_);show codeAny _ _ _ _ _;refine codeAny_handlers_suite_as (FC Hm λBA Lo B=>?_);obtain⟨⟨g',kk,hx,b',room,stF,back⟩,rx⟩:=caught (s:={ Ac with heap:=BA }) elt BY (St.land BY elt U Lo.stays (((up.trans JH).trans JG).trans B) rest) Lo U (((up.trans JH).trans JG).trans B) hC
 refine BJ (F:=F.hand b' room) hfree hv stF rx λFX Z Fy=>aU (hh c V' hX g' kk ea hx (F.hand b' room) hk _ (.cons hc0 hcr) FX Fy) ?_ λZ Z x=>x.elim;intro fl s₆ hR1;obtain⟨fl',Ar,Ab,_,h₆,z,d⟩:=hR1;refine Ky (F:=F) hfree hv (back _ _ _ h₆) λs₇ st₇ T=>?_
 cases fl' with
 |next =>
  cases fl with
  |next=>exact gm ⟨.next,_,Ab,T,trivial,d⟩
  |_=>exact z.elim
 |ret v =>
  cases fl with|ret u=>exact⟨.ret v,_,Ab,T,Rep.st (F:=F) z st₇ T,d⟩|_=>exact z.elim
theorem Good.grow(G:Good S W):Good (S.grow g' k x hx) W:=by
 refine⟨λi hi=>⟨(G.glob i hi).at_⟩,G.bu,?_,G.base,G.six,⟨G.floor.cv,G.floor.get,G.floor.has,G.floor.setattr,G.floor.over,G.floor.make⟩,⟨G.texts.find,G.texts.take⟩,⟨G.cells.find,G.cells.take⟩,?_,G.exk,G.sub,G.meth⟩
 .intro i hi u y
  have:=G.own i hi u y
  exact λh kk=>this h λb o e=>kk b o (k b o e)
 .exact λi h1 d T=>X5pppp (G.exc i h1 d T) λx C bm z U Y B O FB=>⟨x,C,bm,z,U,Y,B,O.keeps k,FB⟩
theorem XR.no'(h:XR F (Up BU) e s'):False:=by
 obtain⟨T,c,V',Ak,m,O,z,⟨_,_,_,Y⟩,y⟩:=h;exact Y
def tryW(Φ Φh:Tab)(c:At)(e:E)(g i:Nat)(hs:List Internal.S)(rs:Rs)(nv ns:Nat)(avs:List AV)(V:LS)(K:KR):Prop :=
 avs.length=c.n/\(wp Φ e (λc τ=>(isXc Φ.ex c && xsub c g)=a6/\wpSs Φh hs BU (Ev (avs.map a0++aP nv aa) i (.exc c)) τ (λfl Z τ'=>CA rs V.length (flV fl) τ' K))).v aa (avs.map a0++aP nv aa) (V++aP ns .no) (λa τ=>CA rs V.length a τ K)
theorem HF{K:KR}{Q:AV->L0->Prop}{X:XL}(T:Mf S W k Φ)(Th:∀g' kk x u,Mf (S.grow g' kk x u) W k Φh)(hf:IsFn S fa c)(hb:c.body=[.try_ [.ret e] (.g g) (a0 i) (h0::hr)])(d:Φ.ex.contains g=a6/\17<=g/\g<=27)
  (o:okS V) (h:tryW Φ Φh c e g i (h0::hr) rs nv ns avs V K) (ret:∀{fl:Fl}{m:L4}{τ:LS}{s:L0},okS τ->Sub τ s->CA rs V.length (flV fl) τ K->RetK S Q fl m s):Mi S (k+1) (.ref fa) avs (Av V) Q (Up X):=by
 refine Mi.mono (X:=noX) (Mi.try_ (X:=Up (λc τ=>(isXc Φ.ex c && xsub c g)=a6/\wpSs Φh (h0::hr) BU (Ev (avs.map a0++aP nv aa) i (.exc c)) τ (λfl Z B=>CA rs V.length (flV fl) B K))) hf h.1 hb (T.good.glob g (T.ex g d.1)) (λc s z=>?_) (λF hk=>?_) λc s z g' kk x u F' hk=>?_) (λZ Z z=>z) λZ Z z=>z.elim
 .obtain⟨τ,_,_,z,_⟩:=z
  refine An (aO.mp z) λO z2=>?_;unfold isXc at O;simp only[bc,iI]at O;exact⟨(T.good.sub c g O.1.2 O.2 (T.ex c O.1.1) d.2.1 d.2.2 (T.ex g d.1)).1.trans (by rw[z2]),X5ppp (T.good.exc c O.1.2 O.2 (T.ex c O.1.1)) λx C bm nid ini hix hcv Z=>⟨C,hcv⟩⟩
 .have:=(AN T e _).v F (dJ hk.symm) _ _ _ _ (Da (n:=ns) o) h.2
  rw[HD,Fb,Cq]at this;exact this.mono λa s z=>by
   obtain⟨τ,hs,y,z⟩:=z;exact ret (fl:=.ret a) y hs z
 .obtain⟨τ,hs,y,_,z⟩:=z
  have:=BV (Th g' kk x u) (h0::hr) BU F' (dJ hk.symm) NoX ⟨λe s q=>q.no' ,PassesOwn.never⟩ _ τ _ y z
  rw[ED,HD,Fb]at this;refine SsT.less hs (SsT.mono this λfl Ar Aj q=>?_);obtain⟨m1,B,em,Y,U,q⟩:=q;exact ret U Y q
theorem Snd.try_(T:Mf S W k Φ)(u:∀g' kk x hx,Mf (S.grow g' kk x hx) W k Φh)(O:IsFn S fa c)(U:c.body=[.try_ [.ret e] (.g g) (a0 i) (h0::hr)])(d:Φ.ex.contains g=a6/\17<=g/\g<=27)
  (h:∀y V K X,f.spec y V K X->∃rs,tryW Φ Φh c e g i (h0::hr) rs nv ns y V K) (Y:∀y,f.pure y=aa):Snd S (k+1) (.ref fa) f :=
 Snd.of (λy V K X o q=>by
  exact X1p (h y V K X q) λrs w=>⟨HF T u O U d o w λok hs z=>Cz ok hs z,λi=>HF T u O U d o w λok hs z=>HN ok hs z⟩) λy v B=>by rw[Y]at B;exact nS B
end
section
section
variable {S:Sta}
noncomputable def func?:Data->Option gI
 |.func fd=>a0 fd
 |_=>aa
theorem func?_out(h:func? d=a0 fd):d=.func fd:=by
 cases d with|func x=>rw[ae h]|_=>exact(Al rfl h).elim
noncomputable def fnD(K:Frag)(a:bg):Option gI:=(K.lookup a).bind λo=>func? o.data
theorem fnD_out{K:Frag}{a:bg}{fd:gI}(h:fnD K a=a0 fd):∃o,K.lookup a=a0 o/\o.data=.func fd:=by
 exact X1pp (AC h) λo Y z=>⟨o,Y,func?_out z⟩
noncomputable def bodyD(fd:gI):Option (List Stmt):=match fd.body with
 |.stmts b=>a0 b
 |_=>aa
noncomputable def nmOk(tb:List Nat)(sc:Nms)(names:List Str):Bool:=(bq names.length).all λj=>match names[j]? with
 |some x=>ixS tb x == a0 j && (sc.lookup x == a0 .local || sc.lookup x == a0 .cell)
 |aa=>a6
noncomputable def fnOk(K:Frag)(c:At)(names:List Str)(fd:gI):Bool :=
 decide (fd.globals=bY) && (decide (fd.builtins=builtinsNs) && (fd.scope.kind == .function && (!fd.scope.isCoroutine && (!fd.scope.isGenerator && (codeIn K fd.code fd.qualname && (names.length == c.n && (nmOk c.tb fd.scope.names names && decide ((c9 0 fd.scope.names []).map (·.1)).Nodup)))))))
set_option tactic.hygienic true in
theorem IsFn.of{a:bg}{c:At}(names:List Str){fd:gI}(h:fnD S.K a=a0 fd)(Y:fnOk S.K c names fd=a6)(O:fd.closure=[])
  (y:(bodyD fd).map (λb=>(cSs c.tb 60 fd.scope.names b).map (·.1))=a0 (a0 (GZ c.body))) (h3:∀vals:List a8,vals.length=c.n->bindArgs fd ⟨vals,[]⟩=pure (names.zip vals)):IsFn S a c:=by
 refine X1pp (fnD_out h) λo T B=>?_;unfold fnOk at Y;simp only[bc,decide_eq_true_eq,beq_iff_eq,Bool.not_eq_true']at Y;refine GN Y λg1 g2 g3 g4 g5 g6 Z0=>Bo Z0 λg7 U g9=>?_
 cases hb:bodyD fd with
 |none=>rw[hb]at y;exact nS y
 |some b =>
  rw[hb]at y;have y:=ae y;have z:fd.body=.stmts b:=by
   unfold bodyD at hb
   split at hb
   .rename_i b' e;obtain rfl:=ae hb;exact e
   .exact nS hb
  refine⟨o,fd,b,names,S.X _ _ T,B,z,O,g1,g2,g3,g4,g5,codeRec_of S.X g6,g7,h3,λj x u=>?_,g9,LW y⟩;unfold nmOk at U;have d:j<names.length:=(cL.mp u).1
  have:=cB.mp U j (fL.mpr d)
  rw[u]at this;simp only[bc,beq_iff_eq,d9]at this;exact⟨this.1,this.2⟩
end
noncomputable def goT(nx:SharedT->Thread->Option (SharedT×Thread))(ok:Thread->Bool):Nat->SharedT->Thread->Option SharedT
 |0,_,_=>aa
 |n+1,s,t=>match through t with
  |true=>a0 s
  |false=>match ok t with
   |false=>aa
   |true=>match nx s t with
    |some (s',t')=>goT nx ok n s' t'
    |aa=>aa
theorem Ih{tb:String->Option dE}{p:dN}:∀(n:Nat)(s r:SharedT)(t:Thread),goT (stepT (denote tb) p w) (stepOk G7 ann) n s t=a0 r->topRun tb p w G7 ann n s.abs t=a0 r.abs
 |0,_,_,_,h=>by exact nS h
 |n+1,s,r,t,h=>by
  unfold goT at h;unfold topRun
  cases ht:through t with
  |true=>rw[ht]at h;obtain rfl:=ae h;rfl
  |false =>
   rw[ht]at h
   cases hk:stepOk G7 ann t with
   |false=>rw[hk]at h;exact nS h
   |true =>
    rw[hk]at h
    cases hs:stepT (denote tb) p w s t with
    |none=>rw[hs]at h;exact nS h
    |some x =>
     obtain⟨s',d⟩:=x;rw[hs]at h;rw[stepT_spec hs];exact Ih n s' r d h
noncomputable def treeOf:List Obj->Nat->PySem.W.BT->PySem.W.BT
 |[],_,t=>t
 |o::l,n,t=>treeOf l (n+1) (t.ins n o)
noncomputable def Jw(P:Params):PySem.W.BT:=treeOf (dc P).objs.toList 0 .nil
noncomputable def seenT{α:Type}(H₀:Heap)(p q:dN)(Xt:ag->Bool)(Yf:ag->α)(s:ag) :=
 ((staticsOk (gw p.main.body) H₀ s.heap && namesBound p s.heap && gensDone s && laidKept H₀ s.heap),openSeen q [] (gw p.main.body) Xt a6 s,Yf s)
theorem left_of(e:opening p=plainProg p.main.scope.names)(B:fM 600 N=a6)(f:∀s,fenceModules? p s=a0 s)
  (O:∀P,absHeap (Jw P) G7 life=dc P) (size:∀P,((dc P).isNs bY,(dc P).objs.size,(dc P).nsMap bY "__annotations__")=(a6,G7,ann))
  (run:∀w:World,(λos=>(goT (stepT (denote treeTable) p w) (stepOk G7 ann) N ⟨Jw w.params,G7,life,iO [],gQ,iA,os⟩ (topStub p)).map λr=>seenT (dc w.params) p q Xt Yf r.abs)=λZ=>a0 (a6,openGood q [],Ya w)) :
  LeftO p q [] Xt Yf Ya N a6:=λw=>by
 obtain⟨⟨h,gs,d,k,os⟩,y,T⟩:=aX.mp (boot_open e B f w);simp only[gc]at T;refine B4 T λZ0 Z1 Z2 Y=>?_;clear T;subst Z0;subst Z1;subst Z2;subst Y;have z:=size w.params;simp only[gc]at z;refine X1pp (aX.mp (congrFun (run w) os)) λr g l=>?_;unfold seenT at l;simp only[gc]at l;have U:=Ih _ _ _ _ g;have u:SharedT.abs ⟨Jw w.params,G7,life,iO [],gQ,iA,os⟩=⟨dc w.params,iO [],gQ,iA,os⟩:=by
  show Shared.mk _ _ _ _ _=_;rw[O]
 rw[u]at U;have t:topFrom treeTable p w N ⟨dc w.params,iO [],gQ,iA,os⟩=a0 r.abs:=by
  unfold topFrom;dsimp only;rw[z.1,z.2.1,z.2.2,U];show (match _ && _ && _ && _ with|true=>_|false=>_)=_
  rw[l.1]
 unfold openEnds;rw[y];show (topFrom treeTable p w N _).map _=_;rw[t];exact congrArg a0 (bX l.2.1 l.2.2)
noncomputable def D5(h:Heap):Frag:=(bq h.objs.size).filterMap λa=>(h.get? a).map λo=>(a,o)
set_option tactic.hygienic true in
theorem Jg{K:Frag}{a:bg}{o:Obj}(h:K.lookup a=a0 o):(a,o)∈K:=by
 induction K with
 |nil=>exact nS h
 |cons x K y =>
  obtain⟨b,u⟩:=x;rw[cY]at h
  split at h
  .rename_i e;obtain rfl:=ae h;rw[eq_of_beq e];exact .head _
  .exact .tail _ (y h)
theorem Ln(h:Heap):(D5 h).In h:=λa o e=>by
 refine X1pp (d7.mp (Jg e)) λb Z z=>X1pp (aX.mp z) λu Y y=>?_;obtain⟨rfl,rfl⟩:=cT y;exact Y
noncomputable def adr:a8->bg
 |.ref a=>a
 |_=>0
noncomputable def ownV(K:Frag)(x:Str):a8:=match nsIn K bY x with
 |some (a0 v)=>v
 |_=>.none
structure Ent where
 a:bg
 c:At
 nms:List Str
noncomputable def GK(K:Frag)(x:Ent):=(fnD K x.a).map λfd=>(bodyD fd).map λb=>(cSs x.c.tb 60 fd.scope.names b).map (·.1)
noncomputable def GL(K:Frag)(x:Ent)(v u t s:a8):=(fnD K x.a).map λfd=>bindArgs fd ⟨[v,u,t,s].take x.c.n,[]⟩
noncomputable def En(x:Ent)(v u t s:a8):Option (Sem (List (Str×a8))):=a0 (pure (x.nms.zip ([v,u,t,s].take x.c.n)))
noncomputable def entOk(K:Frag)(x:Ent):Bool:=decide (x.c.n<=4) && (fnD K x.a).any λfd=>fnOk K x.c x.nms fd && fd.closure.isEmpty
theorem take4:∀{vals:List a8},vals.length<=4->∃v u t s,[v,u,t,s].take vals.length=vals:=λ{vals} h=>by
 cases vals with
 |nil=>exact⟨.none,.none,.none,.none,rfl⟩
 |cons v r=>cases r with
  |nil=>exact⟨v,.none,.none,.none,rfl⟩
  |cons u r=>cases r with
   |nil=>exact⟨v,u,.none,.none,rfl⟩
   |cons t r=>cases r with
    |nil=>exact⟨v,u,t,.none,rfl⟩
    |cons s r=>cases r with|nil=>exact⟨v,u,t,s,rfl⟩|cons _ r=>exact absurd h (Nat.not_le_of_gt (Nat.le_add_left 5 r.length))
theorem IsFn.ent{S:Sta}{x:Ent}(Y:entOk S.K x=a6)(T:GK S.K x=a0 (a0 (a0 (GZ x.c.body))))(d:GL S.K x=En x):IsFn S x.a x.c:=by
 refine An (aO.mp Y) λO Y=>?_
 cases e:fnD S.K x.a with
 |none=>rw[e]at Y;exact nF Y
 |some fd =>
  unfold GK at T;rw[e]at Y T;refine An (aO.mp Y) λy U=>IsFn.of x.nms e y (List.isEmpty_iff.mp U) (ae T) λvals B=>X4p (take4 (vals:=vals) (by rw[B];exact of_decide_eq_true O)) λv u t s z=>?_
  have:=congrFun (congrFun (congrFun (congrFun d v) u) t) s
  unfold GL En at this;rw[e,<- B,z]at this;exact ae this
end
section
noncomputable def nbL:List (Nat×Str):=[(0, "len"),(1, "isinstance"),(2, "int"),(3, "bool"),(4, "tuple"),(5, "list"),(6, "str"),(7, "dict"),(8, "range"),(9, "enumerate"),(10, "sorted"),(11, "sum"),(12, "abs"),(13, "min"),(14, "max"),(15, "all"),(16, "any"),(17, "ValueError")]
noncomputable def neL:List (Nat×Str):=[(18, "FloorError"),(19, "BadFloor"),(20, "Parted"),(21, "Holed"),(22, "NoCell"),(23, "BadLaying"),(24, "NoLaying"),(25, "NoHeights"),(26, "NoTurn"),(27, "BadText")]
structure LawD where
 nf:List (Nat×Str)
 ms:List (Nat×Str)
 es:List (Bool×Str×At×List Str)
 ne:List (Nat×Str)
noncomputable def LawD.no(D:LawD):List (Nat×Str):=D.ne++D.nf
section
variable (D:LawD)
noncomputable def cvK(K:Frag)(i:Nat):a8:=if i<17 then bv i else if i=17 then .type "ValueError" else match D.no.lookup i with
 |some x=>ownV K x
 |aa=>ownV K "MOST_LONG"
noncomputable def clsK(K:Frag):bg:=adr (ownV K "Floor")
noncomputable def Hc(K:Frag)(x:Str):bg:=match eM K (.ref (clsK K)) x with
 |some (a0 v)=>adr v
 |_=>0
noncomputable def WK(K:Frag):Wd where
 U:=λi=>fM i 17 || (D.no.lookup i).isSome || i == 28
 C:=clsK K
 M:=λn=>(D.ms.lookup n).map (Hc K)
noncomputable def entOf(K:Frag)(e:Bool×Str×At×List Str):Ent:=⟨(match e.1 with
 |true=>Hc K e.2.1
 |false=>adr (ownV K e.2.1)),e.2.2.1,e.2.2.2⟩
noncomputable def FF(K:Frag):List Ent:=D.es.map (entOf K)
noncomputable def refK(K:Frag)(x:Str):Bool:=decide (nsIn K bY x=a0 (a0 (.ref (adr (ownV K x)))))
noncomputable def excB(K:Frag)(C:bg):Bool:=decide (eM K (.ref C) "__getattribute__"=a0 (a0 (.builtin "BaseException.__getattribute__"))) && (decide (eM K (.ref C) "__getattr__"=a0 aa) && ((clsIn K C).isSome && (decide (eM K (.ref C) "__class__"=a0 (a0 (.builtin "object.__class__"))) &&
 (decide (specialIn K (.builtin "object.__class__") "__get__"=a0 (a0 (.builtin "getset_descriptor.__get__"))) && (decide (takesIn K (.builtin "object.__class__")=a0 a6) && (decide (mroIn K C (.type "object")=a0 a6) && decide (subIn K (.ref C) (.type "BaseException")=a0 a6)))))))
noncomputable def vBases:List a8:=[.type "ValueError",.type "Exception",.type "BaseException",.type "object"]
noncomputable def floorB(K:Frag)(C:bg):Bool:=plainGet K C "texts" && (hasDictIn K C && (decide (eM K (.ref C) "__setattr__"=a0 (a0 (.builtin "object.__setattr__"))) && (plainOver K C && makesIn K C)))
noncomputable def ER(K:Frag)(C:bg)(x:Str):Bool:=decide (eM K (.ref C) x=a0 aa) && decide (takerIn K C x=a0 aa)
noncomputable def He(K:Frag)(x:Str):Bool:=decide (eM K (.ref (clsK K)) x=a0 (a0 (.ref (Hc K x)))) && (isFn K (.ref (Hc K x)) && keepIn K (.ref (Hc K x)))
noncomputable def sixB(v:a8):Bool:=match v with
 |.int 6 _=>a6
 |_=>a7
structure Fa(K:Frag):Prop where
 blt:∀p∈nbL,nsIn K bY p.2=a0 aa
 own:∀p∈D.no,nsIn K bY p.2=a0 (a0 (.ref (adr (ownV K p.2))))/\keepIn K (.ref (adr (ownV K p.2)))=a6
 law:nsIn K bY "law"=a0 (a0 (.ref (adr (ownV K "law"))))
 six:nsIn K bY "MOST_LONG"=a0 (a0 (ownV K "MOST_LONG"))/\sixB (ownV K "MOST_LONG")=a6
 exc:∀p∈D.ne,excIn K (adr (ownV K p.2)) vBases "ValueError.__new__"=a6/\excB K (adr (ownV K p.2))=a6
 sub:∀c∈D.ne.map (·.1),∀j∈17::D.ne.map (·.1),exmOne K (cvK D K c) (cvK D K j)=a0 (xsub c j)/\kitOne K (cvK D K c) (cvK D K j)=a0 (xsub c j)
 floor:floorB K (clsK K)=a6
 texts:ER K (clsK K) "texts"=a6
 cells:ER K (clsK K) "own"=a6
 init:He K "__init__"=a6
 meth:∀p∈D.ms,He K p.2=a6
 ent:∀x∈FF D K,entOk K x=a6
noncomputable def HY(K:Frag):List Bool:=[nbL.all λp=>decide (nsIn K bY p.2=a0 aa),D.no.all λp=>refK K p.2 && keepIn K (.ref (adr (ownV K p.2))),refK K "law",decide (nsIn K bY "MOST_LONG"=a0 (a0 (ownV K "MOST_LONG"))),sixB (ownV K "MOST_LONG"),
 D.ne.all λp=>excIn K (adr (ownV K p.2)) vBases "ValueError.__new__" && excB K (adr (ownV K p.2)),(D.ne.map (·.1)).all λc=>(17::D.ne.map (·.1)).all λj=>decide (exmOne K (cvK D K c) (cvK D K j)=a0 (xsub c j)) && decide (kitOne K (cvK D K c) (cvK D K j)=a0 (xsub c j)),
 floorB K (clsK K),ER K (clsK K) "texts",ER K (clsK K) "own",He K "__init__",D.ms.all λp=>He K p.2,(FF D K).all (entOk K)]
variable {D}
theorem KJ{K:Frag}(h:HY D K=aP 13 a6):Fa D K:=by
 unfold HY at h;simp only[aP,List.cons.injEq,and_true,cB,bc,decide_eq_true_eq,refK]at h;obtain⟨h1,h2,h3,h4,U,O,y,d,u,B,Y,z,T⟩:=h;exact⟨h1,h2,h3,⟨h4,U⟩,O,y,d,u,B,Y,z,T⟩
variable (D)
noncomputable def obsK(K:Frag):=(HY D K,(FF D K).map (GK K),(FF D K).map (GL K))
noncomputable def valK:List Bool×List (Option (Option (Option (List Internal.S))))×List (a8->a8->a8->a8->Option (Sem (List (Str×a8)))):=(aP 13 a6,(FF D []).map λx=>a0 (a0 (a0 (GZ x.c.body))),(FF D []).map En)
structure EA(K:Frag):Prop where
 L:Fa D K
 body:∀x∈FF D K,GK K x=a0 (a0 (a0 (GZ x.c.body)))
 bind:∀x∈FF D K,GL K x=En x
variable {D}
theorem start_of{K:Frag}(h:obsK D K=valK D):EA D K:=by
 have u:(FF D []).map (λx=>a0 (a0 (a0 (GZ x.c.body))))=(FF D K).map λx=>a0 (a0 (a0 (GZ x.c.body))):=by
  unfold FF;rw[aV,aV];rfl
 have T:(FF D []).map En=(FF D K).map En:=by
  unfold FF;rw[aV,aV];rfl
 unfold obsK valK at h;rw[u,T]at h;simp only[gc]at h;exact⟨KJ h.1,List.map_inj_left.mp h.2.1,List.map_inj_left.mp h.2.2⟩
noncomputable def Gj(D:LawD):Hook:=⟨_,λs=>obsK D (D5 s.heap),λZ=>valK D,λZ h=>∃K:Frag,K.In h/\EA D K,λZ s e=>⟨_,Ln _,start_of e⟩,λ_ _ _ ⟨K,X,s⟩ k=>⟨K,X.keeps k,s⟩⟩
structure LawD.Ok(D:LawD):Prop where
 ix:∀p∈D.nf,ixS GT p.2=a0 p.1
 hi:∀p∈D.nf,29<=p.1
 ne:∀p∈D.ne,p∈neL
 floor:D.no.lookup 29=a0 "Floor"
 mix:∀p∈D.ms,ixS AT p.2=a0 p.1/\p.2 ≠ "texts"/\p.2 ≠ "own"
section
variable {S:Sta}
theorem Glob.own(hi:ixS GT nm=a0 i)(h:nsIn S.K bY nm=a0 (a0 v)):Internal.Glob S i v:=⟨λx u=>.inl (by rw[BO u hi];exact mg_of S.X S.ng h)⟩
theorem Glob.built(hi:ixS GT nm=a0 i)(h:nsIn S.K bY nm=a0 aa)(z:S.mb nm=a0 v):Internal.Glob S i v:=⟨λx u=>.inr (by rw[BO u hi];exact⟨mg_none_of S.X S.ng h,z⟩)⟩
theorem Fq:∀p∈nbL++neL++[(28,ct "MOST_LONG")],ixS GT p.2=a0 p.1:=by decide +kernel
theorem Kx:∀p∈nbL,bootBuiltins p.2=a0 (cvK ⟨[],[],[],[]⟩ [] p.1)/\p.2 ≠ "__name__":=by decide +kernel
set_option tactic.hygienic true in
theorem Bg{l:List (Nat×Str)}{i:Nat}{x:Str}(h:l.lookup i=a0 x):(i,x)∈l:=by
 induction l with
 |nil=>exact nS h
 |cons y l u =>
  obtain⟨b,O⟩:=y;rw[cY]at h
  split at h
  .rename_i e;obtain rfl:=ae h;rw[eq_of_beq e];exact .head _
  .exact .tail _ (u h)
theorem no_hi(O:D.Ok):∀p∈D.no,¬p.1<17/\¬p.1=17:=λp u=>by
 rcases aK.mp u with h|h
 .have:∀p∈neL,¬p.1<17/\¬p.1=17:=by decide +kernel
  exact this p (O.ne p h)
 .have:=O.hi p h;exact⟨lin [p.fst] [] (.j V0 K17) [.b K29 V0] rfl this,λz=>lin [p.fst] [] .no [.b K29 V0,.d V0 K17] rfl this z⟩
theorem no_ix(O:D.Ok):∀p∈D.no,ixS GT p.2=a0 p.1:=λp d=>by
 rcases aK.mp d with h|h
 .exact Fq p (bA _ (bF _ (O.ne p h)))
 .exact O.ix p h
theorem Hx(O:D.Ok){K:Frag}{i:Nat}{x:Str}(h:D.no.lookup i=a0 x):cvK D K i=ownV K x:=by
 refine An (no_hi O _ (Bg h)) λY z=>?_;unfold cvK;rw[if_neg Y,if_neg z,h]
theorem cvK_blt{K:Frag}{i:Nat}(h:i<=17):cvK D K i=cvK ⟨[],[],[],[]⟩ [] i:=by
 unfold cvK
 by_cases Y:i<17
 .rw[if_pos Y,if_pos Y]
 .have:i=17:=aq h (Nat.le_of_not_lt Y)
  rw[if_neg Y,if_neg Y,if_pos this,if_pos this]
theorem usD{K:Frag}{i:Nat}(h:(WK D K).U i=a6):i<=17\/(∃x,D.no.lookup i=a0 x)\/i=28:=by
 simp only[WK,d9,beq_iff_eq,bj]at h
 rcases h with(h|h)|h
 .exact .inl (bt h)
 .exact .inr (.inl h)
 .exact .inr (.inr h)
theorem blt_at:∀i,i<=17->∃x,(i,x)∈nbL:=λi hi=>by
 have:∀i,i<18->(nbL.lookup i).isSome=a6:=by decide +kernel
 exact X1p (bj.mp (this i (Nat.lt_succ_of_le hi))) λx u=>⟨x,Bg u⟩
theorem Io(O:D.Ok){K:Frag}(i:Nat)(B:18<=i)(z:i<=27)(h:(WK D K).U i=a6):∃x,(i,x)∈D.ne/\D.no.lookup i=a0 x:=by
 rcases usD h with h|⟨x,h⟩|rfl
 .exact absurd (am B h) (by decide)
 .refine⟨x,(aK.mp (Bg h)).resolve_right λq=>?_,h⟩
  have Y:29<=i:=O.hi _ q;exact absurd (am Y z) (by decide)
 .exact absurd z (by decide)
theorem own_in{p:Nat×Str}(h:p∈D.ne):p∈D.no:=bA _ h
theorem cv28(O:D.Ok){K:Frag}:cvK D K 28=ownV K "MOST_LONG":=by
 have:D.no.lookup 28=aa:=by
  cases h:D.no.lookup 28 with
  |none=>rfl
  |some x =>
   rcases aK.mp (Bg h)with q|q
   .have:∀p∈neL,p.1≠28:=by decide +kernel
    exact absurd rfl (this _ (O.ne _ q))
   .have z:29<=28:=O.hi _ q
    exact absurd z (by decide)
 unfold cvK;rw[if_neg (by decide),if_neg (by decide),this]
theorem ExcK.of{K:Frag}{C:bg}(h:excB K C=a6):ExcK K C:=by
 simp only[excB,bc,decide_eq_true_eq]at h;exact GN h λU z Y y T O B=>An B λu d=>⟨U,z,Y,y,T,O,u,d⟩
theorem Field.of{C:bg}{x:Str}(h:ER S.K C x=a6):Field S C x:=by
 simp only[ER,bc,decide_eq_true_eq]at h;exact⟨h.1,h.2⟩
theorem Km{K:Frag}{x:Str}{v:a8}(h:nsIn K bY x=a0 (a0 v)):ownV K x=v:=by unfold ownV;rw[h]
theorem globD(O:D.Ok)(L:Fa D S.K)(Y:∀x:Str,x ≠ "__name__"->S.mb x=bootBuiltins x){i:Nat}(h:(WK D S.K).U i=a6):Internal.Glob S i (cvK D S.K i):=by
 rcases usD h with h|⟨x,h⟩|rfl
 .obtain⟨x,u⟩:=blt_at i h
  have z:=Kx _ u;exact Glob.built (Fq (i,x) (bA _ (bA _ u))) (L.blt _ u) (by rw[Y x z.2,z.1,cvK_blt (K:=S.K) h])
 .have u:=Bg h
  rw[Hx O h]
  have:=(L.own _ u).1
  exact Glob.own (no_ix O (i,x) u) (this.trans (congrArg (λv=>a0 (a0 v)) (Km this).symm))
 .rw[cv28 O]
  exact Glob.own (Fq (28,_) (bF _ (.head _))) L.six.1
theorem ownD(O:D.Ok)(L:Fa D S.K){i:Nat}(h:(WK D S.K).U i=a6)(y:i≠28)(u:17<=i):Mk S (cvK D S.K i):=by
 rcases usD h with h|⟨x,h⟩|rfl
 .have:i=17:=aq h u
  clear h y u;subst this;exact Mk.type _
 .rw[Hx O h]
  have:=L.own _ (Bg h)
  refine Mk.own ?_;unfold ownV;rw[this.1];exact this.2
 .exact absurd rfl y
theorem refD(O:D.Ok){K:Frag}(L:Fa D K){i:Nat}{x:Str}(h:D.no.lookup i=a0 x):cvK D K i=.ref (adr (ownV K x)):=by
 rw[Hx O h];exact Km (L.own _ (Bg h)).1
set_option tactic.hygienic true in
theorem goodD{p:dN}{loose:List Str}(O:D.Ok)(L:Fa D S.K)(B:S.cv=cvK D S.K)(T:TopRead p loose S.mg S.mb S.g):Good S (WK D S.K) where
 glob:=λi hi=>by rw[B];exact globD O L T.builtins hi
 bu:=λi hi=>by
  show (_ || _ || _)=a6;rw[Nat.ble_eq_true_of_le (cZ hi)];rfl
 own:=λi hi h17 h28=>by rw[B];exact ownD O L hi h28 h17
 base:=λi hi=>by rw[B];exact if_pos hi
 six:=by
  rw[B,cv28 O]
  have:=L.six.2
  revert this
  cases ownV S.K "MOST_LONG" with
  |int n t =>
   intro h;unfold sixB at h
   split at h
   .rename_i u e;exact⟨u,e⟩
   .exact nF h
  |_=>intro h;exact nF h
 floor:=by
  have h:=L.floor;simp only[floorB,bc,decide_eq_true_eq]at h;obtain⟨U,z,h3,h4,h5⟩:=h;exact⟨by rw[B];exact refD O L (i:=29) (x := "Floor") O.floor,U,z,h3,h4,h5⟩
 texts:=Field.of L.texts
 cells:=Field.of L.cells
 exc:=λi U z hu=>by
  refine X1pp (Io O i U z hu) λx Y hl=>?_;rw[B];exact⟨x,adr (ownV S.K x),_,_,_,no_ix O (i,x) (own_in Y),refD O L hl,own_of_in S.X T (L.own _ (own_in Y)).1 (L.exc _ Y).1,PySem.F.excBase_ValueError⟩
 exk:=λi C U z hu hC=>by
  refine X1pp (Io O i U z hu) λx Y hl=>?_;rw[B,refD O L hl]at hC;obtain rfl:=bE hC;exact ExcK.of (L.exc _ Y).2
 sub:=λc j U z hc h3 h4 hj=>by
  rw[B];refine X1pp (Io O c U z hc) λx Y Z=>L.sub c (aJ.mpr ⟨_,Y,rfl⟩) j ?_
  rcases Nat.eq_or_lt_of_le h3 with e|e
  .rw[<- e];exact .head _
  .exact X1pp (Io O j e h4 hj) λy hy Z=>.tail _ (aJ.mpr ⟨_,hy,rfl⟩)
 meth:=λn f hn=>by
  have key:∀x:Str,ixS AT x=a0 n->x ≠ "texts"->x ≠ "own"->He S.K x=a6->Hc S.K x=f->∃nm,ixS AT nm=a0 n/\nm ≠ "texts"/\nm ≠ "own"/\eM S.K (.ref (WK D S.K).C) nm=a0 (a0 (.ref f))/\isFn S.K (.ref f)=a6/\keepIn S.K (.ref f)=a6:=by
   rintro x a b c d rfl
   simp only[He,bc,decide_eq_true_eq]at d;exact⟨x,a,b,c,d⟩
  refine X1pp (aX.mp hn) λx Y e=>?_;have Y:=Bg Y;exact Bo (O.mix _ Y) λa b c=>key x a b c (L.meth _ Y) e
theorem Jj(st:EA D S.K){e:Bool×Str×At×List Str}(y:e∈D.es):IsFn S (entOf S.K e).a e.2.2.1:=by
 have u:entOf S.K e∈FF D S.K:=cQ y;exact IsFn.ent (st.L.ent _ u) (st.body _ u) (st.bind _ u)
end
end
end
section
section
variable {S:Sta}{W:Wd}{k k':Nat}
theorem JO(h:GV ((j,y)::r) i=a0 x):(i=j/\x=y)\/GV r i=a0 x:=by
 have h:(match cr i j with
  |true=>a0 y
  |false=>GV r i)=a0 x:=h
 cases q:cr i j with
 |false=>rw[q]at h;exact .inr h
 |true=>rw[q]at h;obtain rfl:=ae h;exact .inl ⟨bP q,rfl⟩
abbrev FnS(S:Sta)(W:Wd)(k i:Nat)(f:FS):Prop:=(W.U i=a6/\i≠28)/\Snd S k (S.cv i) f
abbrev MeS(S:Sta)(W:Wd)(k n:Nat)(f:FS):Prop:=∃fa,W.M n=a0 fa/\Snd S k (.ref fa) f
abbrev KyS(S:Sta)(W:Wd)(k i:Nat)(f:AV->Option Ah):Prop:=W.U i=a6/\∃fa kf,S.cv i=.ref fa/\kf+2<=k/\∀x,(f x).isSome=a6->KeyT S kf (.ref fa) (Dz f) [x]
theorem Snd.up(h:Snd S k fv f)(le:k<=k'):Snd S k' fv f:=λF B=>h F (am le B)
theorem FnS.up(h:FnS S W k i f)(le:k<=k'):FnS S W k' i f:=⟨h.1,h.2.up le⟩
theorem MeS.up(h:MeS S W k i f)(le:k<=k'):MeS S W k' i f:=by
 refine X1pp h λB Y z=>?_;exact⟨B,Y,z.up le⟩
theorem KyS.up(h:KyS S W k i f)(le:k<=k'):KyS S W k' i f:=by
 refine An h λT u=>X2ppp u λB y z Y O=>?_;exact⟨T,B,y,z,am Y le,O⟩
def AllP{α:Type}(P:Nat->α->Prop):List (Nat×α)->Prop
 |[]=>True
 |p::r=>P p.1 p.2/\AllP P r
theorem AllP.at:∀{l:List (Nat×α)},AllP P l->∀{i:Nat}{x:α},GV l i=a0 x->P i x
 |[],_,_,_,h=>by exact nS h
 |(j,y)::r,a,i,x,h=>by
  rcases JO h with⟨rfl,rfl⟩|h
  .exact a.1
  .exact a.2.at h
theorem Mf.of{q:Bool}{ex:List Nat}{fn me:List (Nat×FS)}{ky:List (Nat×(AV->Option Ah))}(G:Good S W)(hq:q=a6->S.hx=aa)(hx:ex.all W.U=a6)(O:AllP (FnS S W k) fn)(T:AllP (MeS S W k) me)(B:AllP (KyS S W k) ky):Mf S W k ⟨q,ex,fn,me,ky⟩ :=
 ⟨G,hq,λi hi=>cB.mp hx i (fV.mp hi),λi f h=>O.at h,λi f h=>T.at h,λi f h=>B.at h⟩
end
section
variable {S:Sta}{D:LawD}{k:Nat}{Φ:Tab}{c:At}{rs:Rs}{nv ns:Nat}{f:FS}
theorem no_28(O:D.Ok)(h:D.no.lookup i=a0 x):i≠28:=by
 rintro rfl
 rcases aK.mp (Bg h)with q|q
 .have:∀p∈neL,p.1≠28:=by decide +kernel
  exact absurd rfl (this _ (O.ne _ q))
 .have z:29<=28:=O.hi _ q
  exact absurd z (by decide)
theorem U_of{K:Frag}{i:Nat}{x:Str}(h:D.no.lookup i=a0 x):(WK D K).U i=a6:=by
 show (fM i 17 || (D.no.lookup i).isSome || i == 28)=a6;rw[h];simp
theorem FnS.of(O:D.Ok)(st:EA D S.K)(B:S.cv=cvK D S.K)(y:(a7,nm,c,ps)∈D.es)(Y:D.no.lookup i=a0 nm)(h:Mh Φ c rs nv ns f)(T:Mf S (WK D S.K) k Φ):FnS S (WK D S.K) (k+1) i f :=
 ⟨⟨U_of Y,no_28 O Y⟩,by rw[B,refD O st.L Y];exact Snd.fn T (Jj st y) h⟩
theorem KyS.of(O:D.Ok)(st:EA D S.K)(B:S.cv=cvK D S.K)(y:(a7,nm,c,ps)∈D.es)(Y:D.no.lookup i=a0 nm)(h:Mh Φ c rs nv ns f)(e:∀x p,ky x=a0 p->f.pure [x]=a0 (sp p))(T:Mf S (WK D S.K) k Φ):KyS S (WK D S.K) (k+3) i ky :=
 ⟨U_of Y,_,k+1,by rw[B,refD O st.L Y];rfl,aB _,KeyT.fn T (Jj st y) h e⟩
theorem MeS.of(st:EA D S.K)(y:(a6,nm,c,ps)∈D.es)(Y:D.ms.lookup n=a0 nm)(h:Mh Φ c rs nv ns f)(T:Mf S (WK D S.K) k Φ):MeS S (WK D S.K) (k+1) n f :=
 ⟨Hc S.K nm,by show (D.ms.lookup n).map _=_;rw[Y];rfl,Snd.fn T (Jj st y) h⟩
theorem FnS.make(O:D.Ok)(st:EA D S.K)(B:S.cv=cvK D S.K)(y:(a6,ct "__init__",c,ps)∈D.es)(d:∀avs,f.pure avs=aa)(u:f.whole=a7)
  (h:∀avs V K X,f.spec (Bk avs 0) V K X->makeW Φ c nv ns (Bk avs 3) V K X) (T:Mf S (WK D S.K) k Φ):FnS S (WK D S.K) (k+2) 29 f:=by
 have hi:=st.L.init;simp only[He,bc,decide_eq_true_eq]at hi;refine⟨⟨U_of O.floor,by decide⟩,?_⟩
 rw[B,refD O st.L O.floor];exact Snd.make T hi.1 hi.2.1 (Jj st y) d u h
theorem FnS.try_(O:D.Ok)(st:EA D S.K)(B:S.cv=cvK D S.K)(y:(a7,nm,c,ps)∈D.es)(Y:D.no.lookup i=a0 nm)(h:∀avs V K X,f.spec avs V K X->∃rs,tryW Φ Φh c e g j (h0::hr) rs nv ns avs V K)(z:c.body=[.try_ [.ret e] (.g g) (a0 j) (h0::hr)])
  (T:Mf S (WK D S.K) k Φ) (u:∀g' kk x hx,Mf (S.grow g' kk x hx) (WK D S.K) k Φh) (U:Φ.ex.contains g=a6/\17<=g/\g<=27) (d:∀avs,f.pure avs=aa):FnS S (WK D S.K) (k+1) i f :=
 ⟨⟨U_of Y,no_28 O Y⟩,by rw[B,refD O st.L Y];exact Snd.try_ T u (Jj st y) z U h d⟩
end
end
section
abbrev Sp:=Int×Int
noncomputable def A8(k:Sp):List Sp:=[(k.1,k.2 - 1),(k.1 - 1,k.2),(k.1+1,k.2),(k.1,k.2+1)]
inductive Mj(P:List Sp)(a:Sp):Sp->Prop
 |refl:Mj P a a
 |step {b c:Sp}:Mj P a b->c∈A8 b->c∈P->Mj P a c
def Comp(P:List Sp)(a:Sp)(fs:List Sp):Prop:=fs.Nodup/\∀k,k∈fs↔Mj P a k
theorem sub_length:∀{l k:List Sp},l.Nodup->(∀x∈l,x∈k)->l.length<=k.length
 |[],_,_,_=>cR _
 |x::l,k,nd,h=>by
  rw[bG]at nd;have u:x∈k:=h x (.head _);have Y:=sub_length (k:=k.erase x) nd.2 λy z=>(List.mem_erase_of_ne (λ(e:y=x)=>nd.1 (by rwa [<- e]))).mpr (h y (.tail _ z))
  rw[List.length_erase_of_mem u]at Y
  have:0<k.length:=List.length_pos_of_mem u
  simp only[aL];exact lin [l.length,k.length - 1,k.length] [] (.b (.A V0 K1) V2) [.b V0 V1,.d (.A V1 K1) V2] rfl Y (ao (lin [k.length] [] (.b K1 V0) [.c K0 V0] rfl this))
theorem same_length{l k:List Sp}(Y:l.Nodup)(B:k.Nodup)(h:∀x,x∈l↔x∈k):l.length=k.length :=
 aq (sub_length Y λx u=>(h x).mp u) (sub_length B λx u=>(h x).mpr u)
theorem Mj.mem(h:Mj P a k):k=a\/k∈P:=by
 induction h using Mj.casesOn with|refl=>exact .inl rfl|step _ _ h=>exact .inr h
structure Dfs(N:Sp->Sp->Prop)(R:Sp->Prop)(a:Sp)(fs ws:List Sp):Prop where
 nd:fs.Nodup
 ha:a∈fs
 rc:∀k∈fs,R k
 wf:∀k∈ws,k∈fs
 cl:∀k∈fs,k∉ws->∀c,N k c->c∈fs
structure DfsAt(N:Sp->Sp->Prop)(R:Sp->Prop)(a:Sp)(fs ws:List Sp)(e:Sp)(r:List Sp):Prop where
 nd:fs.Nodup
 ha:a∈fs
 rc:∀k∈fs,R k
 wf:∀k∈ws,k∈fs
 he:e∈fs
 cl:∀k∈fs,k∉ws->∀c,N k c->c∈fs\/(k=e/\c∈r)
noncomputable def Gx(n:Nat)(fs ws:List Sp):Nat:=2 * (n+1 - fs.length)+ws.length
section
variable {N:Sp->Sp->Prop}{R:Sp->Prop}{a e c:Sp}{fs ws r:List Sp}
theorem Kr(a:Sp):[a].Nodup:=.cons (λZ h=>by exact nM h) .nil
theorem Dfs.start(h:R a):Dfs N R a [a] [a] :=
 ⟨Kr a,.head _,λk h'=>by rwa [ay.mp h'],λk h=>h,λk h n=>absurd h n⟩
theorem Dfs.pop(h:Dfs N R a fs (ws++[e]))(y:∀c,N e c->c∈r):DfsAt N R a fs ws e r :=
 ⟨h.nd,h.ha,h.rc,λk B=>h.wf k (bA _ B),h.wf e (bF _ (.head _)),λk B O c d=>by
  by_cases q:k=e
  .clear h;subst q;exact .inr ⟨rfl,y c d⟩
  .exact .inl (h.cl k B (λz=>(aK.mp z).elim O λz=>q (ay.mp z)) c d)⟩
theorem DfsAt.done(h:DfsAt N R a fs ws e []):Dfs N R a fs ws :=
 ⟨h.nd,h.ha,h.rc,h.wf,λk B O c d=>(h.cl k B O c d).elim id λq=>absurd q.2 bp⟩
theorem DfsAt.skip(h:DfsAt N R a fs ws e (c::r))(Y:N e c->c∈fs):DfsAt N R a fs ws e r :=
 ⟨h.nd,h.ha,h.rc,h.wf,h.he,λk B O d y=>by
  rcases h.cl k B O d y with q|⟨q,u⟩
  .exact .inl q
  .clear h;subst q
   rcases az.mp u with rfl|u
   .exact .inl (Y y)
   .exact .inr ⟨rfl,u⟩⟩
theorem DfsAt.push(h:DfsAt N R a fs ws e (c::r))(hc:R c)(Y:c∉fs):DfsAt N R a (fs++[c]) (ws++[c]) e r:=by
 refine⟨?_,bA _ h.ha,λk B=>?_,λk B=>?_,bA _ h.he,λk B u d hd=>?_⟩
 .rw[cM]
  exact⟨h.nd,Kr c,λx U y O z=>Y (ay.mp O▸z▸U)⟩
 .rcases aK.mp B with q|q
  .exact h.rc k q
  .rwa [ay.mp q]
 .exact aK.mpr ((aK.mp B).imp (h.wf k) id)
 .rcases aK.mp B with q|q
  .rcases h.cl k q (λz=>u (bA _ z)) d hd with z|⟨z,T⟩
   .exact .inl (bA _ z)
   .exact(az.mp T).elim (λy=>.inl (bF _ (y▸.head _))) λy=>.inr ⟨z,y⟩
  .exact absurd (bF _ q) u
theorem Gw(h:(fs++[c]).length<=n+1):Gx n (fs++[c]) (ws++[c])<=Gx n fs ws:=by
 unfold Gx;rw[ar,cD]at h ⊢;rw[ar,cD];exact lin [n,fs.length,n+1 - fs.length,n+1 - (fs.length+1),ws.length] [] (.b (.A (.M 2 V3) (.A V4 K1)) (.A (.M 2 V2) V4)) [.B 2 (.A V0 K1) (.A V1 V2),.D 2 (.A V3 (.A V1 K1)) (.A V0 K1)] rfl (au.mp (aB ((n+1) - (fs.length)))) (ao (lin [fs.length,n] [] (.b (.A V0 K1) (.A V1 K1)) [.b (.A V0 K1) (.A V1 K1)] rfl h))
end
def nearN(P:List Sp)(k c:Sp):Prop:=c∈A8 k/\c∈P
theorem JZ{fs:List Sp}(y:fs.Nodup)(B:∀k∈fs,Mj P a k):fs.length<=P.length+1 :=
 sub_length (k:=a::P) y λk u=>by rcases(B k u).mem with q|q<;>simp[q]
theorem Dfs.end_(h:Dfs (nearN P) (Mj P a) a fs []):Comp P a fs :=
 ⟨h.nd,λk=>⟨h.rc k,λr=>by
  induction r with|refl=>exact h.ha|step _ O d y=>exact h.cl _ y bp _ ⟨O,d⟩⟩⟩
inductive Near(x y:Int):Sp->Prop
 |u:Near x y (x,y - 1)
 |l:Near x y (x - 1,y)
 |r:Near x y (x+1,y)
 |d:Near x y (x,y+1)
theorem DZ(h:b∈A8 (x,y)):Near x y b:=by
 refine KI b h ?_ λh=>?_
 .exact .u
 ·
  refine KI b h ?_ λh=>?_
  .exact .l
  ·
   refine KI b h ?_ λh=>?_
   .exact .r
   ·
    exact KI b h .d λh=>nM h
theorem AI(h:Near x y b):b∈A8 (x,y):=by
 induction h using Near.casesOn with|u=>exact .head _|l=>exact .tail _ (.head _)|r=>exact .tail _ (.tail _ (.head _))|d=>exact .tail _ (.tail _ (.tail _ (.head _)))
theorem Bv(h:b∈A8 a):a∈A8 b:=by
 cases DZ h with|u=>refine AI ?_;have:=Near.d (x:=a.1) (y:=a.2 - 1);rwa [aN]at this|l=>refine AI ?_;have:=Near.r (x:=a.1 - 1) (y:=a.2);rwa [aN]at this|r=>refine AI ?_;have:=Near.l (x:=a.1+1) (y:=a.2);rwa [bI]at this|d=>refine AI ?_;have:=Near.u (x:=a.1) (y:=a.2+1);rwa [bI]at this
end
section
noncomputable def Ey(s:List Sp)(k:Sp):List Sp:=if k∈s then s else s++[k]
theorem insS_mem:x∈Ey s k↔x∈s\/x=k:=by
 unfold Ey
 by_cases h:k∈s
 .rw[if_pos h];exact⟨.inl,λq=>q.elim id λe=>e▸h⟩
 .rw[if_neg h,aK,ay]
section
variable (nb:Sp->List Sp)(col:Sp->Bool)
variable {nb col}
end
end
section
noncomputable def dark(k:Sp):Bool:=(k.1+k.2).fmod 2 == 0
noncomputable def nbP(P:List Sp)(a:Sp):List Sp:=if a∈P then (A8 a).filter (λc=>decide (c∈P)) else []
theorem nbP_mem:b∈nbP P a↔a∈P/\b∈A8 a/\b∈P:=by
 unfold nbP
 by_cases h:a∈P
 .rw[if_pos h,cA,decide_eq_true_eq]
  exact⟨λq=>⟨h,q⟩,λq=>q.2⟩
 .rw[if_neg h]
  exact⟨λq=>(bp q).elim,λq=>(h q.1).elim⟩
theorem F8(s:Int):(s+1) % 2=1 - s % 2:=by omega
theorem Kj(s:Int):(s - 1) % 2=1 - s % 2:=by
 have:=F8 (s - 1)
 rw[aN]at this;rw[this,Int.sub_sub_self]
theorem DS{s:Int}(h:¬s % 2=0):s % 2=1:=(Int.emod_two_eq s).resolve_left h
theorem DC{x b:Int}(q:(x - b) % 2=0):¬(x+1 - b) % 2=0:=by
 rw[show x+1 - b=x - b+1 by exact af (lin [] [x,b] (.f (.S (.A V0 K1) V1) (.A (.S V0 V1) K1)) [] rfl) (lin [] [x,b] (.f (.A (.S V0 V1) K1) (.S (.A V0 K1) V1)) [] rfl),F8,q];decide
theorem HQ{x b:Int}(q:¬(x - b) % 2=0):(x - 1 - b) % 2=0:=by
 rw[show x - 1 - b=x - b - 1 by exact af (lin [] [x,b] (.f (.S (.S V0 K1) V1) (.S (.S V0 V1) K1)) [] rfl) (lin [] [x,b] (.f (.S (.S V0 V1) K1) (.S (.S V0 K1) V1)) [] rfl),Kj,DS q];rfl
theorem par_add2{x b:Int}(q:(x - b) % 2=0):(x+1+1 - b) % 2=0:=by
 rw[show x+1+1 - b=x+1 - b+1 by exact af (lin [] [x,b] (.f (.S (.A (.A V0 K1) K1) V1) (.A (.S (.A V0 K1) V1) K1)) [] rfl) (lin [] [x,b] (.f (.A (.S (.A V0 K1) V1) K1) (.S (.A (.A V0 K1) K1) V1)) [] rfl),F8,DS (DC q)];rfl
theorem G4(x b y:Int):(x+y) % 2=((x - b) % 2+(b+y) % 2) % 2:=by
 rw[<- Int.add_emod,<- dq,aN]
theorem LM{s:Int}{b:Bool}(h:(s.fmod 2 == 0)=b):((s+1).fmod 2 == 0)=!b/\((s - 1).fmod 2 == 0)=!b:=by
 rw[dy _ (by decide)]at h ⊢
 rw[dy _ (by decide)]
 cases b with
 |true =>
  have:=eq_of_beq h
  exact⟨beq_eq_false_iff_ne.mpr (by rw[F8,this];decide),beq_eq_false_iff_ne.mpr (by rw[Kj,this];decide)⟩
 |false =>
  have:=DS (beq_eq_false_iff_ne.mp h)
  exact⟨beq_iff_eq.mpr (by rw[F8,this];rfl),beq_iff_eq.mpr (by rw[Kj,this];rfl)⟩
theorem B3{a b:Sp}(h:b∈A8 a):dark b=!(dark a):=by
 refine An (LM (s:=a.1+a.2) (b:=dark a) rfl) λY O=>?_
 cases DZ h with|u=>rw[<- O];show ((a.1+(a.2 - 1)).fmod 2 == 0)=_;rw[<- Int.add_sub_assoc]|l=>rw[<- O];show ((a.1 - 1+a.2).fmod 2 == 0)=_;rw[show a.1 - 1+a.2=a.1+a.2 - 1 by exact af (lin [] [a.fst,a.snd] (.f (.A (.S V0 K1) V1) (.S (.A V0 V1) K1)) [] rfl) (lin [] [a.fst,a.snd] (.f (.S (.A V0 V1) K1) (.A (.S V0 K1) V1)) [] rfl)]|r=>rw[<- Y];show ((a.1+1+a.2).fmod 2 == 0)=_;rw[show a.1+1+a.2=a.1+a.2+1 by exact af (lin [] [a.fst,a.snd] (.f (.A (.A V0 K1) V1) (.A (.A V0 V1) K1)) [] rfl) (lin [] [a.fst,a.snd] (.f (.A (.A V0 V1) K1) (.A (.A V0 K1) V1)) [] rfl)]|d=>rw[<- Y];show ((a.1+(a.2+1)).fmod 2 == 0)=_;rw[<- dq]
theorem IW(n:s.Nodup)(h:k∉s):(s++[k]).Nodup:=by
 rw[cM];exact⟨n,bG.mpr ⟨bp,fO⟩,λa ha b z e=>h (by rwa [<- ay.mp z,<- e])⟩
noncomputable def FV(a b:Sp):Bool:=if a.2=b.2 then decide (a.1<b.1) else decide (a.2<b.2)
theorem ordB_iff:FV a b=a6↔a.2<b.2\/(a.2=b.2/\a.1<b.1):=by
 unfold FV
 by_cases h:a.2=b.2
 .rw[if_pos h,decide_eq_true_eq];exact⟨λz=>.inr (⟨af (lin [] [a.snd,b.snd] (.f V0 V1) [.h V0 V1] rfl h) (lin [] [a.snd,b.snd] (.f V1 V0) [.H (-1) V0 V1] rfl h),lin [] [a.fst,b.fst] (.g V0 V1) [.g V0 V1] rfl z⟩),λz=>z.elim (λO=>lin [] [a.snd,b.snd,a.fst,b.fst] (.G 0 V2 V3) [.H (-1) V0 V1,.g V0 V1] rfl h O) (λO=>lin [] [a.fst,b.fst] (.g V0 V1) [.g V0 V1] rfl O.2)⟩
 .rw[if_neg h,decide_eq_true_eq];exact⟨λz=>.inl (lin [] [a.snd,b.snd] (.g V0 V1) [.g V0 V1] rfl z),λz=>(aW h).elim (λO=>lin [] [a.snd,b.snd] (.g V0 V1) [.g V0 V1] rfl O) (λO=>z.elim (λT=>lin [] [a.snd,b.snd] (.g V0 V1) [.g V0 V1] rfl T) (λT=>lin [] [b.snd,a.snd] (.G 0 V1 V0) [.g V0 V1,.h V1 V0] rfl O T.1))⟩
noncomputable def covL(l:List (Sp×Sp)):List Sp:=l.flatMap λq=>[q.1,q.2]
theorem F9(h:FV a b=a6):FV b a≠a6:=λh'=>by
 have h:=ordB_iff.mp h;have h':=ordB_iff.mp h';exact h.elim (λz=>h'.elim (λO=>lin [] [a.snd,b.snd] .no [.g V0 V1,.g V1 V0] rfl z O) (λO=>lin [] [a.snd,b.snd] .no [.g V0 V1,.h V1 V0] rfl z O.1)) (λz=>h'.elim (λO=>lin [] [a.snd,b.snd] .no [.h V0 V1,.g V1 V0] rfl z.1 O) (λO=>lin [] [a.fst,b.fst] .no [.g V0 V1,.g V1 V0] rfl z.2 O.2))
theorem ordB_tot(h:a≠b):FV a b=a6\/FV b a=a6:=by
 rw[ordB_iff,ordB_iff]
 rcases Int.lt_trichotomy a.2 b.2 with e|e|e
 .exact .inl (.inl e)
 .exact(aW λz=>h (bX z e)).elim (λz=>.inl (.inr ⟨e,z⟩)) λz=>.inr (.inr ⟨e.symm,z⟩)
 .exact .inr (.inl e)
theorem Gz{m:Sp->Sp}:∀{l:List Sp},l.Nodup->(∀a∈l,FV a (m a)=a6/\m (m a)=a)->(covL (l.map λc=>(c,m c))).Nodup
 |[],_,_=>.nil
 |a::l,nd,h=>by
  rw[bG]at nd;refine An (h a (.head _)) λT d=>?_;have ih:=Gz nd.2 λb Y=>h b (.tail _ Y);show ([a,m a]++covL (l.map λc=>(c,m c))).Nodup;have ne:a≠m a:=λe=>by have:=ordB_iff.mp T;rw[<- e]at this;exact this.elim (λO=>lin [] [a.snd] .no [.g V0 V0] rfl O) (λO=>lin [] [a.fst] .no [.g V0 V0] rfl O.2)
  have key:∀x,x=a\/x=m a->∀b∈l,x=b\/x=m b->False:=λx U b Y u=>by
   refine An (h b (.tail _ Y)) λB b2=>?_;have ab:a≠b:=λe=>nd.1 (e▸Y)
   rcases U with rfl|rfl<;>rcases u with e|e
   .exact ab e
   .rw[e,b2]at T;exact F9 T B
   .rw[<- e,d]at B;exact F9 T B
   .exact ab (by rw[<- d,e,b2])
  refine cM.mpr ⟨bG.mpr ⟨λq=>ne (ay.mp q),bG.mpr ⟨bp,fO⟩⟩,ih,λx U y u e=>?_⟩;subst e;refine X1pp (dY.mp u) λq hq u=>?_;obtain⟨b,Y,rfl⟩:=aJ.mp hq;refine key x ?_ b Y ?_
  .rcases az.mp U with z|z
   .exact .inl z
   .exact .inr (ay.mp z)
  .rcases az.mp u with z|z
   .exact .inl z
   .exact .inr (ay.mp z)
end
section
set_option tactic.hygienic true in
theorem Ij{K:KS}(J:List α->List α->M->LS->Prop)(y:∀d m V,J d [] m V->K .next m V)
  (hs:∀d x r m V,J d (x::r) m V->∀C:M->LS->Prop,(∀U z,J (d++[x]) r U z->C U z)->patW q p (g x) m (λAo=>body Ao V (Fu ok V C K))):∀{r d:List α}{m:M}{V:LS},J d r m V->Jm q p body ok K (r.map g) m V
 |[],d,m,V,h=>y d m V h
 |x::r,d,m,V,h=>hs d x r m V h (Jm q p body ok K (r.map g)) λU z h=>Ij J y hs h
set_option tactic.hygienic true in
theorem AS{K:KS}{items:List AV}{r d:List α}{m:M}{V:LS}(e:items=r.map g)(J:List α->List α->M->LS->Prop)(y:∀d m V,J d [] m V->K .next m V)
  (hs:∀d x r m V,J d (x::r) m V->∀C:M->LS->Prop,(∀Ar Ab,J (d++[x]) r Ar Ab->C Ar Ab)->patW q p (g x) m (λAo=>body Ao V (Fu ok V C K))) (h:J d r m V):Jm q p body ok K items m V:=by
 rw[e];exact Ij J y hs h
theorem ifT(e:b=a6)(h:A):ifW b A B:=by subst e;exact h
theorem ifF(e:b=a7)(h:B):ifW b A B:=by subst e;exact h
theorem ifB(h:b=a6->A)(h':b=a7->B):ifW b A B:=by
 cases b with|true=>exact h rfl|false=>exact h' rfl
noncomputable def tt(l:List Ah):List (Ah×AV):=l.map λp=>(p,.bool a6)
theorem Cu(l:List Ah)(k:Ah):(A2 (tt l) k).isSome=decide (k∈l):=by
 unfold A2 tt;rw[Option.isSome_map]
 induction l with
 |nil=>rfl
 |cons x r y =>
  rw[b5,dD]
  by_cases e:x=k
  .clear y;subst e;simp
  .have:decide (x=k)=a7:=decide_eq_false e
   simp only[this];rw[y];simp[dO e]
theorem in_tt:InV V (sp k) (.dict (tt P)) (decide (k∈P)):=Cu P k
theorem in_ttl(e:slot V i=.at a (.dict (tt P))):InV V (sp k) (.loc a i) (decide (k∈P)):=by
 unfold InV;simp only[e];exact⟨trivial,Cu P k⟩
theorem Hq(h:k∉l):Bs (tt l) k (.bool a6)=tt (l++[k]):=by
 unfold Bs;rw[Cu,decide_eq_false h,if_neg (by decide)]
 unfold tt;rw[a9];rfl
theorem BW(l:List Ah):(tt l).length=l.length:=by unfold tt;rw[aj]
end
section
noncomputable def c_near:At:=⟨[0x3a8001c0000e200074,121,122],1,[.assign (.tup [.v 1,.v 2]) (.v 0),.ret (.list [.tup [.v 1,.bin .Sub (.v 2) (.int 1)],.tup [.bin .Sub (.v 1) (.int 1),.v 2],.tup [.bin .Add (.v 1) (.int 1),.v 2],.tup [.v 1,.bin .Add (.v 2) (.int 1)]])]⟩
noncomputable def c_spread:At:=⟨[0x750003a0001cc000d400067,0x330001b8000e000074,0x65000378001d8000e000067,0x1a0000de0006a0003a8001a8000c400078,0x3a8001c0000e200074],2,[.assign (.v 2) (.mu 4 (.dict [.v 0] [.bool a6])),.assign (.v 3) (.mu 5 (.list [.v 0])),.while_ (.cmp .Gt (.call (.g 0) [.v 3]) (.int 0)) [.for_ (.v 4) (.call (.g 34) [.meth (.v 3) 1 []]) [.ite (.and [.cmp .In (.v 4) (.v 1),.cmp .NotIn (.v 4) (.v 2)]) [.setitem (.v 2) (.v 4) (.bool a6),.expr (.meth (.v 3) 0 [.v 4])] []]],.ret (.v 2)]⟩
noncomputable def spot1?(avs:List AV):Option Ah:=(one? avs).bind spot?
theorem spot1?_out(h:spot1? avs=a0 k):avs=[sp k]:=by
 refine X1pp (AC h) λa Y h=>?_;rw[one?_out Y,spot?_out h]
noncomputable def fNear:FS:=⟨λavs=>(spot1? avs).bind λk=>a0 (.list ((A8 k).map sp)),λZ Z Z Z=>False,a7⟩
theorem near_ok:Mh ⟨a6,ex,[],[],[]⟩ c_near .val 2 0 fNear:=by
 refine⟨λZ Z Z Z h=>h.elim,λy v h K U=>?_⟩;obtain⟨k,Y,h⟩:=AC h;obtain rfl:=ae h;obtain rfl:=spot1?_out Y;exact⟨rfl,U⟩
theorem Ft(h:n<=10000):n<=big:=am h (by decide)
theorem Dfs.len(h:Gx k fs ws<=n):ws.length<=n:=by unfold Gx at h;exact lin [k+1 - fs.length,ws.length,n] [] (.b V1 V2) [.b (.A (.M 2 V0) V1) V2] rfl h
noncomputable def spM(p:Ah)(v:AV)(a1 a2:bg)(x:Option AV):M:=[a0 (sp p),a0 v,a0 (.loc a1 4),a0 (.loc a2 5),x]
noncomputable def spS(b0:Slot)(a1 a2:bg)(F:List (Ah×AV))(W:List AV)(tl:LS):LS:=b0::.no::.no::.no::.at a1 (.dict F)::.at a2 (.list W)::tl
inductive SpJ(P:List Ah)(p:Ah)(v:AV)(a1 a2:bg)(b0:Slot)(tl:LS):Nat->M->LS->Prop
 |mk (fs ws:List Ah)(x:Option AV)(F:List (Ah×AV))(W:List AV)(hd:Dfs (nearN P) (Mj P p) p fs ws)(hM:Gx P.length fs ws<=2 * (P.length+1)+1)(eF:F=tt fs)(eW:W=ws.map sp):SpJ P p v a1 a2 b0 tl (Gx P.length fs ws) (spM p v a1 a2 x) (spS b0 a1 a2 F W tl)
inductive SpI(P:List Ah)(p:Ah)(v:AV)(a1 a2:bg)(b0:Slot)(tl:LS)(e:Ah)(n:Nat)(d r:List Ah):M->LS->Prop
 |mk (fs ws:List Ah)(x:Option AV)(F:List (Ah×AV))(W:List AV)(hd:DfsAt (nearN P) (Mj P p) p fs ws e r)(hM:Gx P.length fs ws<n)(hr:∀c∈r,c∈A8 e)(eF:F=tt fs)(eW:W=ws.map sp):SpI P p v a1 a2 b0 tl e n d r (spM p v a1 a2 x) (spS b0 a1 a2 F W tl)
theorem G0{KK:KS}{a1 a2:bg}{n:Nat}{m:M}{V:LS}(hP:P.length<=1000)(hn:n<=2 * (P.length+1)+1)(Y:∀(k:Ah)(τ:LS),InV (b0::τ) (sp k) v (decide (k∈P)))
  (j:SpI P p v a1 a2 b0 tl e n d (c::r) m V) (C:M->LS->Prop) (hC:∀Ar Ab,SpI P p v a1 a2 b0 tl e n (d++[c]) r Ar Ab->C Ar Ab) :
  patW a6 (.v 4) (sp c) m (λAo=>wpSs ⟨a6,ex,[(34,fNear)],[],[]⟩ [.ite (.and [.cmp .In (.v 4) (.v 1),.cmp .NotIn (.v 4) (.v 2)]) [.setitem (.v 2) (.v 4) (.bool a6),.expr (.meth (.v 3) 0 [.v 4])] []] X Ao V (Fu aa V C KK)):=by
 induction j using SpI.casesOn with
 |mk fs ws x F W y O hr U eW =>
  have u:∀c∈r,c∈A8 e:=λc z=>hr c (.tail _ z)
  by_cases h1:c∈P
  .refine⟨_,Y c _,ifT (decide_eq_true h1) ⟨_,⟨rfl,by rw[U];exact Cu fs c⟩,?_⟩⟩
   by_cases T:c∈fs
   .rw[decide_eq_true T]
    exact hC _ _ (.mk fs ws _ F W (y.skip λZ=>T) O u U eW)
   .rw[decide_eq_false T]
    have hf:=JZ y.nd y.rc;have hw:=Dfs.len (am (cZ O) hn);refine⟨rfl,by rw[U,BW];exact Ft (lin [P.length,fs.length] [] (.b V1 IH) [.b V0 AD,.b V1 (.A V0 K1)] rfl hP hf),rfl,rfl,by rw[eW,aj];exact Ft (lin [P.length,ws.length] [] (.b V1 IH) [.B 2 V0 AD,.b V1 (.A (.M 2 (.A V0 K1)) K1)] rfl hP hw),?_⟩
    have pu:=y.push (.step (y.rc e y.he) (hr c (.head _)) h1) T;exact hC _ _ (.mk (fs++[c]) (ws++[c]) _ _ _ pu (cW (Gw (JZ pu.nd pu.rc)) O) u (by rw[U,Hq T]) (by rw[eW,a9];rfl))
  .exact⟨_,Y c _,ifF (decide_eq_false h1) (hC _ _ (.mk fs ws _ F W (y.skip λq=>absurd q.2 h1) O u U eW))⟩
theorem DM{KK:KS}(hP:P.length<=1000)(hin:∀(k:Ah)(τ:LS),InV (b0::τ) (sp k) v (decide (k∈P)))
  (hK:∀fs y Y m,Comp P p fs->KK (.ret (.loc y 4)) m (b0::.no::.no::.no::.at y (.dict (tt fs))::.at Y (.list [])::tl)) :
  wpSs ⟨a6,ex,[(34,fNear)],[],[]⟩ c_spread.body X [a0 (sp p),a0 v,aa,aa,aa] (b0::.no::.no::.no::.no::.no::tl) KK:=by
 refine λy Y=>⟨SpJ P p v y Y b0 tl,⟨_,.mk [p] [p] _ _ _ (Dfs.start .refl) (by unfold Gx;rw[cD];exact lin [P.length+1 - 1,P.length] [] (.b (.A (.M 2 V0) K1) (.A (.M 2 (.A V1 K1)) K1)) [.B 2 V0 (.A V1 K1)] rfl (f7 (P.length+1) (1))) rfl rfl⟩,λn m V j=>?_⟩
 induction j using SpJ.casesOn with
 |mk fs ws x F W hd u eF U =>
  have O:W.length<=big:=by rw[U,aj];exact Ft (am (Dfs.len u) (lin [P.length] [] (.b (.A (.M 2 (.A V0 K1)) K1) IH) [.B 2 V0 AD] rfl hP))
  refine⟨rfl,O,?_⟩
  rcases List.eq_nil_or_concat ws with rfl|⟨w,e,rfl⟩
  .subst eF;clear O;subst U
   exact hK fs y Y _ hd.end_
  .rw[eA]at hd u ⊢
   rw[eA,a9]at U;have l1:(w++[e]).length=w.length+1:=ar;refine ifT (decide_eq_true (by rw[U,ar];exact Int.ofNat_lt.mpr (iG _))) ⟨rfl,rfl,O,sp e,by rw[U];exact List.getLast?_concat,AS (g:=sp) rfl (SpI P p v y Y b0 tl e (Gx P.length fs (w++[e]))) (λd m τ j=>?_) (λd c r m τ j C hC=>G0 hP u hin j C hC) (d:=[]) (.mk fs w _ _ _ (hd.pop λc z=>z.1) (by unfold Gx;rw[l1];exact lin [P.length+1 - fs.length,w.length] [] (.c (.A (.M 2 V0) V1) (.A (.M 2 V0) (.A V1 K1))) [] rfl) (λZ z=>z) eF (by rw[U];exact List.dropLast_concat))⟩
   induction j using SpI.casesOn with|mk fs' ws' x' F' W' hd' T _ eF' eW'=>exact⟨_,T,.mk fs' ws' _ _ _ hd'.done (am (cZ T) u) eF' eW'⟩
inductive QO(avs:List AV)(V:LS)(K:KR):Prop
 |mk (p:_)(P:List Sp)(c0:P.length<=1000)(c1:((avs=[sp p,.dict (tt P)]/\V=[]/\∀fs,Comp P p fs->K ⟨[.dict (tt fs)],.new 0⟩ [])\/∃a,avs=[sp p,.loc a 0]/\V=[.at a (.dict (tt P))]/\∀fs,Comp P p fs->K ⟨[.dict (tt fs)],.new 0⟩ [.at a (.dict (tt P))])):QO avs V K
noncomputable def Lw:FS:=⟨λZ=>aa,λavs V K X=>QO avs V K,a7⟩
theorem JU{ex:List Nat}:Mh ⟨a6,ex,[(34,fNear)],[],[]⟩ c_spread .new 3 6 Lw:=by
 refine⟨λy V K X h=>?_,λy v h K U=>by exact nS h⟩
 obtain⟨p,P,d,⟨rfl,rfl,U⟩|⟨a,rfl,rfl,U⟩⟩:=h
 .exact⟨rfl,DM d (λk τ=>in_tt) λfs B z m h=>⟨rfl,U fs h⟩⟩
 .exact⟨rfl,DM d (λk τ=>in_ttl rfl) λfs B z m h=>⟨rfl,U fs h⟩⟩
end
section
def Ml(d:Nat)(a:AV):Prop:=∃p,GQ a=a0 p/\p.canLay0=a6/\p.depth<=d
theorem Ml.mono(h:Ml d a)(le:d<=e):Ml e a:=by
 refine X1ppp h λp O z Y=>?_;exact⟨p,O,z,am Y le⟩
theorem Ml.eq(h:Ml d a)(le:d<=64):EqP a a a6:=by
 refine X1ppp h λp Y z U=>?_;have s:dF p=a6:=by
  unfold dF;rw[z,decide_eq_true (am U le)];rfl
 exact .py ⟨p,p,Y,Y,s,s,PySem.SeqAt.eqv_refl p z⟩
theorem Ml.all:∀{l:List AV},(∀x∈l,Ml d x)->∃ps,DJ l=a0 ps/\dI ps=a6/\cI ps<=d
 |[],_=>⟨[],rfl,by simp[dI],by simp[cI]⟩
 |x::l,h=>by
  refine X1ppp (h x (.head _)) λp U z Y=>X1ppp (Ml.all λy u=>h y (.tail _ u)) λps O B T=>⟨p::ps,?_,?_,?_⟩
  .show (GQ x).bind _=_
   rw[U,O];rfl
  .rw[dI,z,B];rfl
  .rw[cI];exact Nat.max_le.mpr ⟨Y,T⟩
theorem Ml.list(h:∀x∈l,Ml d x):Ml (d+1) (.list l):=by
 refine X1ppp (Ml.all h) λps y B T=>⟨.list ps,?_,?_,?_⟩
 .show (DJ l).map _=_
  rw[y];rfl
 .rwa [eO]
 .rw[fP];exact lin [cI ps,d] [] (.b (.A V0 K1) (.A V1 K1)) [.b V0 V1] rfl T
theorem Ml.tup(h:∀x∈l,Ml d x):Ml (d+1) (.tup l):=by
 refine X1ppp (Ml.all h) λps y B T=>⟨.tuple ps,?_,?_,?_⟩
 .show (DJ l).map _=_
  rw[y];rfl
 .rwa [eO]
 .rw[fP];exact lin [cI ps,d] [] (.b (.A V0 K1) (.A V1 K1)) [.b V0 V1] rfl T
theorem Ml.int(i:Int):Ml 0 (.int i):=⟨.int i,rfl,by simp[eO],by simp[fP]⟩
theorem Ml.bool(b:Bool):Ml 0 (.bool b):=⟨.bool b,rfl,by simp[eO],by simp[fP]⟩
theorem Ml.none:Ml 0 .none:=⟨.none,rfl,by simp[eO],by simp[fP]⟩
theorem Ml.str(h:∀c∈x.cps.toList,c<128):Ml 0 (.str x):=⟨.str x,rfl,by
 simp only[eO,PyData.strOk];rw[fQ];intro c d
 have:=h c (Array.mem_toList_iff.mpr d)
 simp;exact lin [c] [] (.c V0 K1114112) [.c V0 K128] rfl this,by simp[fP]⟩
theorem Ml.sp(k:Ah):Ml 1 (sp k):=Ml.tup λx u=>by
 rcases az.mp u with rfl|u
 .exact Ml.int _
 .rw[ay.mp u];exact Ml.int _
theorem Ml.spots(P:List Ah):Ml 2 (.list (P.map Internal.sp)):=Ml.list λx u=>by
 refine X1pp (aJ.mp u) λk Z z=>?_;clear u;subst z;exact Ml.sp k
noncomputable def IV(k:Ah):PyData:=.tuple [.int k.1,.int k.2]
theorem LG(a b:Ah):fX (IV a) (IV b)=decide (a=b):=by
 obtain⟨u,T⟩:=a;obtain⟨z,B⟩:=b;have e:∀x y:Int,(x == y)=decide (x=y):=λZ Z=>rfl;simp[IV,fX,PyData.eqvAll,Prod.ext_iff,e]
theorem toPyL_sp(P:List Ah):DJ (P.map sp)=a0 (P.map IV):=by
 induction P with|nil=>rfl|cons k P y=>show (GQ (sp k)).bind _=_;rw[y];rfl
theorem eqW.same{K:Bool->Prop}(h:Ml d a)(le:d<=64)(z:∀x i,a≠.loc x i)(U:K a6):eqW a a V K:=by
 cases a with|int x=>show K (x == x);rwa [beq_self_eq_true]|loc x i=>exact absurd rfl (z x i)|_=>exact⟨a6,h.eq le,U⟩
end
section
noncomputable def LU:At:=⟨[0x68000378001a8000d200075],1,[.ret (.and [.call (.g 1) [.v 0,.g 2],.not (.call (.g 1) [.v 0,.g 3])])]⟩
noncomputable def c_spot:At:=⟨[0x68000378001a8000d200075],1,[.ret (.and [.call (.g 1) [.v 0,.g 4],.cmp .Eq (.call (.g 0) [.v 0]) (.int 2),.call (.g 30) [.sub (.v 0) (.int 0)],.call (.g 30) [.sub (.v 0) (.int 1)]])]⟩
noncomputable def E1:At:=⟨[0x3a8001c0000e200074],1,[.ret (.tup [.sub (.v 0) (.int 1),.sub (.v 0) (.int 0)])]⟩
noncomputable def GG:At:=⟨[0x368001b4000cc00064],1,[.ret (.cmp .Eq (.bin .Mod (.bin .Add (.sub (.v 0) (.int 0)) (.sub (.v 0) (.int 1))) (.int 2)) (.int 0))]⟩
noncomputable def c_Fhas:At:=⟨[0x338001b4000cc00074,0x6600032000188000da00071],2,[.ret (.and [.call (.g 31) [.v 1],.cmp .In (.v 1) (.attr (.v 0) 12)])]⟩
noncomputable def IE:At:=⟨[0x338001b4000cc00074],1,[.ret (.mu 4 (.call (.g 5) [.attr (.v 0) 12]))]⟩
noncomputable def E3:At:=⟨[0x1d4000e20006a00039800190000e8000600003c000188000da00060,0xd8000600003c000188000da00060],2,[.ite (.cmp .Lt (.v 1) (.call (.g 0) [.v 0])) [.ret (.sub (.v 0) (.v 1))] [],.ret (.int 0)]⟩
noncomputable def IA:At:=⟨[0x1cc000cc00063000370001d8000de000600003c000188000da00060,0xd8000600003c000188000da00060],2,[.ret (.bin .Mod (.bin .Add (.bin .Add (.bin .Mult (.v 0) (.int 48271)) (.bin .Mult (.int 7919) (.v 1))) (.int 11)) (.int 2147483647))]⟩
noncomputable def IB:At:=⟨[0xe600070000398001cc000cc000600003c000188000da00060,0xca0006f0003b0001c0000ce000600003c000188000da00060],1,[.assign (.v 1) (.list [.call (.g 1) [.v 0,.g 19],.call (.g 1) [.v 0,.g 20],.call (.g 1) [.v 0,.g 21]]),.assign (.v 1) (.bin .Add (.v 1) (.list [.call (.g 1) [.v 0,.g 22],.call (.g 1) [.v 0,.g 23],.call (.g 1) [.v 0,.g 24]])),.assign (.v 1) (.bin .Add (.v 1) (.list [.call (.g 1) [.v 0,.g 25],.call (.g 1) [.v 0,.g 26],.call (.g 1) [.v 0,.g 27]])),.ret (.bin .Add (.v 1) (.list [.call (.g 1) [.v 0,.g 18],.call (.g 1) [.v 0,.g 17]]))]⟩
noncomputable def ID:At:=⟨[0xe600070000398001cc000cc000600003c000188000da00060,0xcc00064000310001b4000e2000600003c000188000da00060,0xd8000600003c000188000da00060],2,[.ret (.cmp .Eq (.call (.g 78) [.v 0]) (.comp (.or [.cmp .Eq (.v 2) (.v 1),.cmp .Gt (.v 2) (.int 8)]) 2 (.call (.g 8) [.int 11]) []))]⟩
noncomputable def Iz:At:=⟨[0xcc00064000310001b4000e2000600003c000188000da00060],1,[.ret (.tup [.sub (.v 0) (.int 1),.sub (.v 0) (.int 0)])]⟩
theorem Aq(h:n<=1000):n<=big:=by unfold big;exact lin [n] [] (.b V0 Aw) [.b V0 AD] rfl h
noncomputable def pureF(f:List AV->Option AV):FS:=⟨f,λZ Z Z Z=>False,a7⟩
noncomputable def specF(f:List AV->LS->KR->XL->Prop):FS:=⟨λZ=>aa,f,a7⟩
theorem Mh.pureF(h:∀avs v,f avs=a0 v->∀K:KR,K ⟨[],.val v⟩ []->fnW Φ c .val nv ns avs [] K BU):Mh Φ c .val nv ns (pureF f):=⟨λZ Z Z Z h=>h.elim,h⟩
theorem Mh.specF(h:∀avs V K X,f avs V K X->fnW Φ c rs nv ns avs V K X):Mh Φ c rs nv ns (specF f):=⟨h,λZ Z h=>by exact nS h⟩
noncomputable def whole?:AV->Option Bool
 |.int _=>a0 a6
 |.bool _=>a0 a7
 |.str _=>a0 a7
 |.none=>a0 a7
 |_=>aa
noncomputable def fWhole:FS:=pureF λavs=>(one? avs).bind λa=>(whole? a).bind λb=>a0 (.bool b)
theorem whole_ok:Mh ⟨a6,ex,[],[],[]⟩ LU .val 0 0 fWhole:=by
 refine .pureF λy v h K U=>X1pp (AC h) λa Y h=>X1pp (AC h) λb z h=>?_;obtain rfl:=ae h;obtain rfl:=one?_out Y
 cases a<;>first|(obtain rfl:=ae z;exact⟨rfl,U⟩)|cases z
inductive Odd:AV->Prop
 |none:Odd .none
 |str (s:Str):Odd (.str s)
 |list (l:List AV):Odd (.list l)
 |dict (l:List (Ah×AV)):Odd (.dict l)
 |one (x:Int):Odd (.tup [.int x])
 |bi (b:Bool)(x:Int):Odd (.tup [.bool b,.int x])
 |is (x:Int)(s:Str):Odd (.tup [.int x,.str s])
 |three (x y z:Int):Odd (.tup [.int x,.int y,.int z])
inductive QN(avs:List AV)(V:LS)(K:KR):Prop
 |mk (v:_)(c0:avs=[v])(c1:V=[])(c2:((∃k,v=sp k/\K ⟨[],.val (.bool a6)⟩ [])\/(Odd v/\K ⟨[],.val (.bool a7)⟩ []))):QN avs V K
noncomputable def fSpot:FS:=specF λavs V K Z=>QN avs V K
theorem spot_ok:Mh ⟨a6,ex,[(30,fWhole)],[],[]⟩ c_spot .val 0 0 fSpot:=by
 refine .specF λy V K X h=>?_;obtain⟨v,rfl,rfl,⟨k,rfl,U⟩|⟨o,U⟩⟩:=h
 .exact⟨rfl,Aq (bt rfl),U⟩
 .induction o using Odd.casesOn<;>first|exact⟨rfl,U⟩|exact⟨rfl,Aq (bt rfl),U⟩
theorem ownW_no{mu:Option Nat}{K:KV}{X:XL}(Y:AO avs=[])(z:Bk avs 0=avs)(h:f avs [] (λr V'=>Fz mu r V K) (λc V'=>X c V)):G6 (specF f) mu avs V K X:=by
 show (match HV (AO avs)with
  |true=>f (Bk avs 0) ((AO avs).map (slot V)) (λr V'=>Fz mu r (wb V (AO avs) V') K) (λc V'=>X c (wb V (AO avs) V'))
  |false=>False)
 rw[Y,z];exact h
noncomputable def keyF(avs:List AV):Option AV:=(spot1? avs).bind λk=>a0 (sp (k.2,k.1))
theorem Mh.spot{g:Ah->AV}(h:∀(k:Ah)(K:KR),K ⟨[],.val (g k)⟩ []->fnW Φ c .val nv ns [sp k] [] K BU):Mh Φ c .val nv ns (Internal.pureF λy=>(spot1? y).bind λk=>a0 (g k)) :=
 .pureF λy v e K U=>by
  refine X1pp (AC e) λk Y e=>?_;obtain rfl:=ae e;obtain rfl:=spot1?_out Y;exact h k K U
theorem EK:Mh ⟨a6,ex,[],[],[]⟩ E1 .val 0 0 (pureF keyF):=.spot λk K U=>⟨rfl,U⟩
theorem Gf:Mh ⟨a6,ex,[],[],[]⟩ Iz .val 0 0 (pureF keyF):=.spot λk K U=>⟨rfl,U⟩
noncomputable def fDark:FS:=pureF λavs=>(spot1? avs).bind λk=>a0 (.bool ((k.1+k.2).fmod 2 == 0))
theorem dark_ok:Mh ⟨a6,ex,[],[],[]⟩ GG .val 0 0 fDark:=.spot λk K U=>⟨rfl,U⟩
noncomputable def ES:FS:=pureF λavs=>(two? avs).bind λp=>(int2? p.1 p.2).bind λk=>a0 (.int ((k.1 * 48271+7919 * k.2+11).fmod 2147483647))
end
section
theorem Dh{K:List AV->LS->Prop}{P:α->Bool}{f:α->AV}{V:LS}:∀{r:List α}{O:List AV},
  (∀x∈r,∀(O:List AV)(C:List AV->LS->Prop),(P x=a6->C (O++[f x]) V)->(P x=a7->C O V)->tst (Ev m i (g x)) V (λb Aa=>ifW b (elt (Ev m i (g x)) Aa (λy z=>stays ok V z (C (O++[y]) z))) (stays ok V Aa (C O Aa)))) ->
  K (O++(r.filter P).map f) V->Eh i elt tst ok m K (r.map g) O V
 |[],O,_,hK=>by rw[iN,iJ,aF]at hK;exact hK
 |x::r,O,h,hK=>h x (.head _) O (λO V=>Eh i elt tst ok m K (r.map g) O V)
  (λe=>Dh (λy u=>h y (.tail _ u)) (by rw[fq e,b5]at hK;rwa [aH]))
  (λe=>Dh (λy u=>h y (.tail _ u)) (by rw[fu (by rw[e];decide)]at hK;exact hK))
theorem GB{K:List AV->LS->Prop}{P:α->Bool}{f:α->AV}{V:LS}{items:List AV}{r:List α}(e:items=r.map g)
  (h:∀x∈r,∀(O:List AV)(C:List AV->LS->Prop),(P x=a6->C (O++[f x]) V)->(P x=a7->C O V)->tst (Ev m i (g x)) V (λb Aa=>ifW b (elt (Ev m i (g x)) Aa (λy z=>stays ok V z (C (O++[y]) z))) (stays ok V Aa (C O Aa))))
  (U:K ((r.filter P).map f) V):Eh i elt tst ok m K items [] V:=by
 rw[e];exact Dh h U
theorem IU(h:P):stays ok V V P:=by
 cases ok with|none=>exact h|some i=>exact⟨rfl,h⟩
theorem EX{K:List AV->LS->Prop}{f:α->AV}{V:LS}:∀{r:List α}{O:List AV},
  (∀x∈r,∀C:KV,C (f x) V->elt (Ev m i (g x)) V C)->K (O++r.map f) V->Eh i elt (GW []) ok m K (r.map g) O V
 |[],O,_,hK=>by rw[iJ,aF]at hK;exact hK
 |x::r,O,h,hK=>h x (.head _) _ (IU (EX (λy u=>h y (.tail _ u)) (by rwa [aH])))
theorem AZ{K:List AV->LS->Prop}{f:α->AV}{V:LS}{items:List AV}{r:List α}(e:items=r.map g)
  (h:∀x∈r,∀C:KV,C (f x) V->elt (Ev m i (g x)) V C) (U:K (r.map f) V):Eh i elt (GW []) ok m K items [] V:=by
 rw[e];exact EX h U
noncomputable def ivs(a:Int):Nat->List Int
 |0=>[]
 |n+1=>a::ivs (a+1) n
theorem AB(a:Int):∀n,(ivs a n).length=n
 |0=>rfl
 |n+1=>by rw[ivs,aL,AB (a+1) n]
theorem ivs_mem:∀{n:Nat},x∈ivs a n↔a<=x/\x<a+n
 |0=>by simp[ivs]
 |n+1=>by rw[ivs,az,ivs_mem (n:=n)];exact⟨λy=>⟨y.elim (λO=>lin [] [x,a] (.f V1 V0) [.H (-1) V0 V1] rfl O) (λO=>lin [] [a,x] (.f V0 V1) [.f (.A V0 K1) V1] rfl O.1),y.elim (λO=>lin [n] [x,a] (.g V0 (.A V1 (.c (.A V0 K1)))) [.h V0 V1] rfl O) (λO=>lin [n] [x,a] (.g V0 (.A V1 (.c (.A V0 K1)))) [.g V0 (.A (.A V1 K1) (.c V0))] rfl O.2)⟩,λy=>cg λO=>(aW (λz=>O (.inl z))).elim (λT=>lin [] [a,x] .no [.f V0 V1,.g V1 V0] rfl y.1 T) (λT=>(aY.mp (λz=>O (.inr z))).elim (λY=>lin [] [a,x] .no [.g V0 V1,.k (.A V0 K1) V1] rfl T Y) (λY=>lin [n] [x,a] .no [.g V0 (.A V1 (.c (.A V0 K1))),.l V0 (.A (.A V1 K1) (.c V0))] rfl y.2 Y))⟩
theorem Dn:∀(n:Nat)(a:Int),A1 a 1 n=(ivs a n).map .int
 |0,_=>rfl
 |n+1,a=>by
  unfold A1;rw[List.range_succ_eq_map,b5,aV];have y:=Dn n (a+1);unfold A1 at y;rw[ivs,b5,<- y]
  congr 1
  .simp
  .apply b4
   intro i _;simp only[Function.comp_def]
   congr 1
   exact af (lin [i] [a] (.f (.A V0 (.M 1 (.c (.A V0 K1)))) (.A (.A V0 K1) (.M 1 (.c V0)))) [] rfl) (lin [i] [a] (.f (.A (.A V0 K1) (.M 1 (.c V0))) (.A V0 (.M 1 (.c (.A V0 K1))))) [] rfl)
theorem EI(a b:Int):aR a b 1=max (b - a) 0:=by
 unfold aR;rw[if_pos (show (1:Int) > 0 by decide)]
 by_cases q:a<b
 .rw[if_pos q,Int.ediv_one];exact af (lin [] [b,a,max (b - a) 0] (.f (.A (.S (.S V0 V1) K1) K1) V2) [.f (.S V0 V1) V2] rfl (Int.le_max_left (b - a) (0))) ((Ct (b - a) (0)).elim (λz=>lin [] [max (b - a) 0,b,a] (.f V0 (.A (.S (.S V1 V2) K1) K1)) [.h V0 (.S V1 V2)] rfl z) (λz=>lin [] [a,b,max (b - a) 0] (.f V2 (.A (.S (.S V1 V0) K1) K1)) [.g V0 V1,.h V2 K0] rfl q z))
 .rw[if_neg q];exact af (lin [] [max (b - a) 0] (.f K0 V0) [.f K0 V0] rfl (dw (b - a) (0))) ((Ct (b - a) (0)).elim (λz=>lin [] [a,b,max (b - a) 0] (.f V2 K0) [.l V0 V1,.h V2 (.S V1 V0)] rfl q z) (λz=>lin [] [max (b - a) 0] (.f V0 K0) [.h V0 K0] rfl z))
theorem HK(a b:Int):A1 a 1 (Bd a b 1)=(ivs a (b - a).toNat).map .int:=by
 have e:Bd a b 1=(b - a).toNat:=by
  unfold Bd;rw[EI];exact aq ((HG (b - a)).elim (λz=>(Ct (b - a) (0)).elim (λO=>lin [(b - a).toNat,(max (b - a) 0).toNat] [b,a,max (b - a) 0] (.b V1 V0) [.f (.S V0 V1) (.c V0),.h (.c V1) V2,.h V2 (.S V0 V1)] rfl (aI (b - a)) (an (lin [] [max (b - a) 0] (.f K0 V0) [.f K0 V0] rfl (dw (b - a) (0)))) O) (λO=>lin [(max (b - a) 0).toNat,(b - a).toNat] [max (b - a) 0] (.b V0 V1) [.h (.c V0) V0,.h V0 K0] rfl (an (lin [] [max (b - a) 0] (.f K0 V0) [.f K0 V0] rfl (dw (b - a) (0)))) O)) (λz=>(Ct (b - a) (0)).elim (λO=>lin [(max (b - a) 0).toNat,(b - a).toNat] [max (b - a) 0,b,a] (.B 0 V0 V1) [.f K0 V0,.g (.S V1 V2) K0,.h V0 (.S V1 V2)] rfl (dw (b - a) (0)) z.1 O) (λO=>lin [(max (b - a) 0).toNat,(b - a).toNat] [max (b - a) 0] (.b V0 V1) [.h (.c V0) V0,.h V0 K0] rfl (an (lin [] [max (b - a) 0] (.f K0 V0) [.f K0 V0] rfl (dw (b - a) (0)))) O))) ((HG (b - a)).elim (λz=>lin [(max (b - a) 0).toNat,(b - a).toNat] [max (b - a) 0,b,a] (.b V1 V0) [.f V0 (.c V0),.f (.S V1 V2) V0,.h (.c V1) (.S V1 V2)] rfl (aI (max (b - a) 0)) (Int.le_max_left (b - a) (0)) z.2) (λz=>lin [(b - a).toNat,(max (b - a) 0).toNat] [] (.b V0 V1) [.d V0 K0] rfl z.2))
 rw[e,Dn]
theorem BZ(u:-1000000<=a)(U:a<=1000000)(T:-1000000<=b)(y:b<=1000000):cC a b 1=a6:=by
 have Y:∀i:Int,-10000000<=i->i<=10000000->gz i=a6:=λi u U=>by
  unfold gz;rw[bc,decide_eq_true_eq,decide_eq_true_eq];exact⟨dG (by decide) u,gH U (by decide)⟩
 unfold cC;rw[EI,Y a (lin [] [a] (.f Cg V0) [.f Bj V0] rfl u) (lin [] [a] (.f V0 B6) [.f V0 Aw] rfl U),Y b (lin [] [b] (.f Cg V0) [.f Bj V0] rfl T) (lin [] [b] (.f V0 B6) [.f V0 Aw] rfl y),Y 1 (by decide) (by decide),Y _ (by exact lin [] [max (b - a) 0] (.f Cg V0) [.f K0 V0] rfl (dw (b - a) (0))) (by exact(Ct (b - a) (0)).elim (λz=>lin [] [a,b,max (b - a) 0] (.f V2 B6) [.f Bj V0,.f V1 Aw,.h V2 (.S V1 V0)] rfl u y z) (λz=>lin [] [max (b - a) 0] (.f V0 B6) [.h V0 K0] rfl z):max (b - a) 0<=10000000)]
 rw[if_pos (show (1:Int) > 0 by decide)]
 rw[Y (b+(1 - 1)) (lin [] [b] (.f Cg (.A V0 (.S K1 K1))) [.f Bj V0] rfl T) (lin [] [b] (.f (.A V0 (.S K1 K1)) B6) [.f V0 Aw] rfl y),Bool.or_true]
 rfl
theorem J6(n:Nat):A1 0 1 (Bd 0 n 1)=(ivs 0 n).map .int:=by
 rw[HK,show ((n:Int) - 0).toNat=n by rw[fR];rfl]
theorem mixed_ok:Mh ⟨a6,ex,[],[],[]⟩ IA .val 0 0 ES:=by
 refine .pureF λy v h K U=>X1pp (AC h) λp Y h=>X1pp (AC h) λk z h=>?_;obtain rfl:=ae h;obtain rfl:=two?_out Y;rw[(int2?_out z).1,(int2?_out z).2];exact⟨rfl,IntMulOk.of_right (by decide +kernel),eU (by decide +kernel),by decide,U⟩
inductive Q4(avs:List AV)(V:LS)(K:KR):Prop
 |mk (l:List Int)(j:Nat)(c0:avs=[.nums l,.int j])(c1:l.length<=1000)(c2:V=[])(c3:K ⟨[],.val (.int (l.getD j 0))⟩ []):Q4 avs V K
noncomputable def fAt:FS:=specF λavs V K Z=>Q4 avs V K
theorem at_ok:Mh ⟨a6,ex,[],[],[]⟩ E3 .val 0 0 fAt:=by
 refine .specF λy V K X h=>?_;obtain⟨l,j,rfl,Y,rfl,U⟩:=h;refine⟨rfl,Aq Y,?_⟩
 by_cases z:j<l.length
 .refine ifT (by rw[decide_eq_true_eq];exact lin [j,l.length] [] (.g (.c V0) (.c V1)) [.c V0 V1] rfl z) ⟨⟨lin [j] [] (.f K0 (.c V0)) [] rfl,lin [l.length,j] [] (.g (.c V1) Aw) [.b V0 AD,.c V1 V0] rfl Y z⟩,l.getD j 0,?_,U⟩
  rw[show ((j:Int)).toNat=j from rfl,ax z,aD,ax z];rfl
 .refine ifF (by rw[decide_eq_false_iff_not];exact lin [j,l.length] [] (.l (.c V0) (.c V1)) [.j V0 V1] rfl z) ?_
  have:l.getD j 0=0:=by rw[aD,aZ (by exact lin [j,l.length] [] (.b V1 V0) [.j V0 V1] rfl z)];rfl
  rw[this]at U;exact U
noncomputable abbrev AJ(t:AV)(P:List Ah):AV:=.inst (FW t (.dict (tt P)))
theorem Ff(P:List Ah):((tt P).map λp=>sp p.1)=P.map sp:=by unfold tt;rw[aV];rfl
inductive QE(avs:List AV)(V:LS)(K:KR):Prop
 |mk (t:AV)(P:List Sp)(k:_)(b:_)(c0:avs=[AJ t P,sp k])(c1:V=[])(c2:decide (k∈P)=b)(c3:K ⟨[],.val (.bool b)⟩ []):QE avs V K
noncomputable def fHas:FS:=specF λavs V K Z=>QE avs V K
theorem has_ok:Mh ⟨a6,ex,[(31,fSpot)],[],[]⟩ c_Fhas .val 0 0 fHas:=by
 refine .specF λy V K X h=>?_;obtain⟨t,P,k,b,rfl,rfl,e,U⟩:=h;exact⟨rfl,_,rfl,rfl,.inl ⟨k,rfl,⟨rfl,rfl⟩,rfl,b,(Cu P k).trans e,U⟩⟩
inductive Q6(avs:List AV)(V:LS)(K:KR):Prop
 |mk (t:AV)(P:List Sp)(c0:avs=[AJ t P])(c1:P.length<=1000)(c2:V=[])(c3:K ⟨[.list (P.map sp)],.new 0⟩ []):Q6 avs V K
noncomputable def LB:FS:=specF λavs V K Z=>Q6 avs V K
theorem cells_ok:Mh ⟨a6,ex,[],[],[]⟩ IE .new 0 5 LB:=by
 refine .specF λy V K X h=>?_;obtain⟨t,P,rfl,Y,rfl,U⟩:=h;exact⟨rfl,⟨rfl,rfl⟩,rfl,Aq (by rwa [BW]),λa=>⟨rfl,by rw[Ff];exact U⟩⟩
end
section
noncomputable def E5:At:=⟨[0x338001b4000cc00074,0x65000378001d8000e000067,121,122,0x3a8001c0000e200074],1,[.assign (.v 1) (.mu 4 (.dict [] [])),.for_ (.tup [.v 2,.v 3]) (.attr (.v 0) 12) [.for_ (.v 4) (.list [.tup [.v 2,.v 3],.tup [.bin .Add (.v 2) (.int 1),.v 3],.tup [.v 2,.bin .Add (.v 3) (.int 1)],.tup [.bin .Add (.v 2) (.int 1),.bin .Add (.v 3) (.int 1)]]) [.setitem (.v 1) (.v 4) (.bool a6)]],.ret (.mu 5 (.sorted (.call (.g 5) [.v 1]) (.g 32)))]⟩
noncomputable def ins(fs:List Ah)(k:Ah):List Ah:=if k∈fs then fs else fs++[k]
theorem ins_mem:x∈ins fs k↔x∈fs\/x=k:=by
 unfold ins
 by_cases h:k∈fs
 .rw[if_pos h]
  exact⟨.inl,λq=>q.elim id λe=>e▸h⟩
 .rw[if_neg h,aK,ay]
theorem KZ(n:fs.Nodup):(ins fs k).Nodup:=by
 unfold ins
 by_cases h:k∈fs
 .rwa [if_pos h]
 .rw[if_neg h,cM]
  exact⟨n,bG.mpr ⟨bp,fO⟩,λa ha b z e=>h (by rwa [<- ay.mp z,<- e])⟩
theorem Ir(n:fs.Nodup):Bs (tt fs) k (.bool a6)=tt (ins fs k):=by
 unfold ins
 by_cases h:k∈fs
 .rw[if_pos h]
  unfold Bs;rw[Cu,decide_eq_true h,if_pos rfl];unfold tt;rw[aV];apply b4;intro x _
  by_cases e:x=k
  .simp[e]
  .simp[e]
 .rw[if_neg h];exact Hq h
noncomputable def Bt(k:Ah):List Ah:=[(k.1,k.2),(k.1+1,k.2),(k.1,k.2+1),(k.1+1,k.2+1)]
noncomputable def BS(P:List Ah):List Ah:=P.foldl (λfs c=>(Bt c).foldl ins fs) []
theorem BP:∀{ks fs:List Ah},x∈ks.foldl ins fs↔x∈fs\/x∈ks
 |[],fs=>by simp
 |k::ks,fs=>by rw[cU,BP,ins_mem,az,or_assoc]
theorem Bi:∀{ks fs:List Ah},fs.Nodup->(ks.foldl ins fs).Nodup
 |[],_,n=>n
 |k::ks,fs,n=>by rw[cU];exact Bi (KZ n)
theorem EV:∀{P fs:List Ah},x∈P.foldl (λfs c=>(Bt c).foldl ins fs) fs↔x∈fs\/∃c∈P,x∈Bt c
 |[],fs=>by simp
 |p::P,fs=>by
  rw[cU,EV,BP,or_assoc]
  simp
theorem Dv:∀{P fs:List Ah},fs.Nodup->(P.foldl (λfs c=>(Bt c).foldl ins fs) fs).Nodup
 |[],_,n=>n
 |p::P,fs,n=>by rw[cU];exact Dv (Bi n)
theorem cornF_mem:x∈BS P↔∃c∈P,x∈Bt c:=by unfold BS;rw[EV];simp
theorem Ee(P:List Ah):(BS P).Nodup:=Dv fO
def lt2(a b:Ah):Prop:=a.2<b.2\/(a.2=b.2/\a.1<b.1)
theorem Hf(a:Ah):¬lt2 a a:=by unfold lt2;exact λz=>z.elim (λO=>lin [] [a.snd] .no [.g V0 V0] rfl O) (λO=>lin [] [a.fst] .no [.g V0 V0] rfl O.2)
theorem lt2_asym(h:lt2 a b):¬lt2 b a:=by unfold lt2 at *;exact λz=>h.elim (λO=>z.elim (λT=>lin [] [a.snd,b.snd] .no [.g V0 V1,.g V1 V0] rfl O T) (λT=>lin [] [a.snd,b.snd] .no [.g V0 V1,.h V1 V0] rfl O T.1)) (λO=>z.elim (λT=>lin [] [a.snd,b.snd] .no [.h V0 V1,.g V1 V0] rfl O.1 T) (λT=>lin [] [a.fst,b.fst] .no [.g V0 V1,.g V1 V0] rfl O.2 T.2))
theorem BC{l:List Ah}(h:l.Pairwise lt2):l.Nodup:=h.imp λq e=>by subst e;exact Hf _ q
theorem GS:∀{l k:List Ah},l.Pairwise lt2->k.Pairwise lt2->(∀x,x∈l↔x∈k)->l=k
 |[],[],_,_,_=>rfl
 |[],b::k,_,_,h=>by have:=(h b).mpr (.head _);exact nM this
 |a::l,[],_,_,h=>by have:=(h a).mp (.head _);exact nM this
 |a::l,b::k,hl,hk,h=>by
  rw[fe]at hl hk;have e:a=b:=by
   rcases az.mp ((h a).mp (.head _))with q|q
   .exact q
   .rcases az.mp ((h b).mpr (.head _))with z|z
    .exact z.symm
    .exact absurd (hk.1 a q) (lt2_asym (hl.1 b z))
  subst e
  congr 1
  refine GS hl.2 hk.2 λx=>⟨λu=>?_,λu=>?_⟩
  .rcases az.mp ((h x).mp (.tail _ u))with q|q
   .clear hk h;subst q;exact absurd (hl.1 x u) (Hf _)
   .exact q
  .rcases az.mp ((h x).mpr (.tail _ u))with q|q
   .clear hl h;subst q;exact absurd (hk.1 x u) (Hf _)
   .exact q
noncomputable def kyF(x:AV):Option Ah:=(spot? x).bind λk=>a0 (k.2,k.1)
theorem lt2_key(h:AM (Dz kyF (sp a)) (Dz kyF (sp b))=a6):lt2 a b:=by
 exact pairLt_iff.mp (show AM (a.2,a.1) (b.2,b.1)=a6 from h)
theorem sortW.spots{mu:Option Nat}{fs C:List Ah}{V:LS}{K:KV}(n:fs.Nodup)(B:C.Pairwise lt2)(T:∀x,x∈fs↔x∈C)(d:C.length<64)(h:frW mu (.list (C.map sp)) (.list (C.map sp)) V K):sortW kyF mu (fs.map sp) V K:=by
 refine⟨⟨λx u=>by refine X1pp (aJ.mp u) λk Z Z0=>?_;subst Z0;rfl,?_,?_⟩,λY O=>?_⟩
 .rwa [aj,same_length n (BC B) T]
 .rw[aV]
  refine b6.mpr (n.imp λq e=>q ?_);have e:((_,_):Ah)=(_,_):=e;exact bX (cT e).2 (cT e).1
 .refine An O λp O=>?_
  have:∃D:List Ah,Y=D.map sp:=by
   refine⟨Y.map λx=>let k:=Dz kyF x;(k.2,k.1),?_⟩;rw[aV];refine(fw Y).symm.trans (b4 λx u=>(X1pp (aJ.mp (p.mem_iff.mp u)) λk Z Z1=>?_));clear u;subst Z1
   rfl
  refine X1p this λD U=>?_;subst U;have y:D.Pairwise lt2:=(b6.mp O).imp lt2_key;have inj:∀a b:Ah,sp a=sp b->a=b:=λa b e=>by
   have e:=AV.tup.inj e;exact bX (AV.int.inj (e7 e).1) (AV.int.inj (e7 (e7 e).2).1)
  have:D=C:=GS y B λx=>by
   rw[<- T]
   constructor
   .refine λu=>X1pp (aJ.mp (p.mem_iff.mp (cQ u))) λk z e=>?_
    rwa [<- inj _ _ e]
   .intro u
    obtain⟨k,z,e⟩:=aJ.mp (p.mem_iff.mpr (cQ u))
    rwa [<- inj _ _ e]
  clear B T d;subst this;exact h
structure Cor(P C:List Ah):Prop where
 up:C.Pairwise lt2
 mem:∀k,k∈C↔∃c∈P,k∈Bt c
 few:C.length<64
theorem Cor.fold(h:Cor P C)(x:Ah):x∈BS P↔x∈C:=cornF_mem.trans (h.mem x).symm
theorem CM:∀{ks fs:List Ah},(ks.foldl ins fs).length<=fs.length+ks.length
 |[],fs=>aB _
 |k::ks,fs=>by
  rw[cU];refine am CM ?_
  have:(ins fs k).length<=fs.length+1:=by
   unfold ins
   split<;>simp
  rw[aL];exact lin [(ins fs k).length,fs.length,ks.length] [] (.b (.A V0 V2) (.A V1 (.A V2 K1))) [.b V0 (.A V1 K1)] rfl this
theorem Js(d:List Ah)(c:Ah):BS (d++[c])=(Bt c).foldl ins (BS d):=by unfold BS;rw[ie];rfl
theorem EW:∀{P fs:List Ah},(P.foldl (λfs c=>(Bt c).foldl ins fs) fs).length<=fs.length+4 * P.length
 |[],fs=>aB _
 |p::P,fs=>by
  rw[cU];refine am EW ?_
  have:=CM (ks:=Bt p) (fs:=fs)
  have e:(Bt p).length=4:=rfl;rw[aL];exact lin [(iL ins fs (Bt p)).length,fs.length,(Bt p).length,P.length] [] (.b (.A V0 (.M 4 V3)) (.A V1 (.M 4 (.A V3 K1)))) [.b V0 (.A V1 V2),.d V2 K4] rfl this e
theorem GA(P:List Ah):(BS P).length<=4 * P.length:=by
 have:=EW (P:=P) (fs:=[])
 unfold BS;rw[dg]at this;exact lin [(iL (λfs c=>iL ins fs (Bt c)) [] P).length,P.length] [] (.b V0 (.M 4 V1)) [.b V0 (.A K0 (.M 4 V1))] rfl this
theorem iterW.tt(h:G (P.map sp) aa V):iterW a6 (.dict (tt P)) V G:=by
 rw[<- Ff]at h;exact h
theorem listW.tt{mu:Option Nat}{K:KV}{a:bg}{i:Nat}(e:slot V i=.at a (.dict (Internal.tt P)))(Y:P.length<=1000)(h:frW mu (.list (P.map sp)) (.list (P.map sp)) V K):listW a6 mu (.loc a i) V K:=by
 rw[<- Ff]at h;unfold listW;simp only[e];exact⟨trivial,Aq (by rwa [BW]),h⟩
inductive Q8(avs:List AV)(V:LS)(K:KR):Prop
 |mk (t:AV)(P:List Sp)(C:List Sp)(c0:avs=[AJ t P])(c1:V=[])(c2:P.length<=100)(c3:Cor P C)(c4:K ⟨[.list (C.map sp)],.new 0⟩ []):Q8 avs V K
noncomputable def FE:FS:=specF λavs V K X=>Q8 avs V K
theorem Jr:Mh ⟨a6,ex,[],[],[(32,kyF)]⟩ E5 .new 4 6 FE:=by
 refine .specF λavs V K X h=>?_;obtain⟨t,P,C,rfl,rfl,hP,hC,hK⟩:=h;refine⟨rfl,λa=>⟨⟨rfl,rfl⟩,rfl,iterW.tt (AS (g:=sp) rfl (λd r m V=>d++r=P/\∃x y z,m=[a0 (AJ t P),a0 (.loc a 4),x,y,z]/\V=[.no,.no,.no,.no,.at a (.dict (tt (BS d))),.no]) ?_ ?_ (d:=[]) ⟨rfl,_,_,_,rfl,rfl⟩)⟩⟩
 .intro d m V u
  obtain⟨O,x,y,z,rfl,rfl⟩:=u;rw[aF]at O;subst O;show listW a6 aa (.loc a 4) [.no,.no,.no,.no,.at a (.dict (tt (BS d))),.no] _;refine listW.tt (P:=BS d) ?_ (by have:=GA d;exact lin [d.length,(BS d).length] [] (.b V1 AD) [.B 4 V0 Et,.b V1 (.M 4 V0)] rfl hP this) ?_
  .rfl
  refine sortW.spots (Ee d) hC.up hC.fold hC.few λb=>⟨rfl,hK⟩
 .intro d k r m V u C' U
  obtain⟨O,x,y,z,rfl,rfl⟩:=u;have hl:d.length+r.length+1=P.length:=by rw[<- O];simp;exact aq (lin [d.length,r.length] [] (.b (.A (.A V0 V1) K1) (.A V0 (.A V1 K1))) [] rfl) (lin [d.length,r.length] [] (.b (.A V0 (.A V1 K1)) (.A (.A V0 V1) K1)) [] rfl)
  refine AS (r:=Bt k) (g:=sp) rfl (λe s m V=>e++s=Bt k/\∃z,m=[a0 (AJ t P),a0 (.loc a 4),a0 (.int k.1),a0 (.int k.2),z]/\V=[.no,.no,.no,.no,.at a (.dict (tt (e.foldl ins (BS d)))),.no]) ?_ ?_ (d:=[]) ⟨rfl,_,rfl,rfl⟩
  .intro e m V u
   obtain⟨T,z,rfl,rfl⟩:=u;rw[aF]at T;subst T;exact U _ _ ⟨by rwa [aH],_,_,_,rfl,by rw[Js]⟩
  .intro e c s m V u C2 Y
   obtain⟨T,z,rfl,rfl⟩:=u;have h4:e.length+s.length+1=4:=by
    have:=congrArg bW T
    rw[ar,aL]at this;have e4:(Bt k).length=4:=rfl;exact aq (lin [e.length,s.length,(Bt k).length] [] (.b (.A (.A V0 V1) K1) K4) [.d (.A V0 (.A V1 K1)) V2,.d V2 K4] rfl this e4) (lin [e.length,s.length,(Bt k).length] [] (.b K4 (.A (.A V0 V1) K1)) [.D (-1) (.A V0 (.A V1 K1)) V2,.D (-1) V2 K4] rfl this e4)
   refine⟨rfl,Aq ?_,?_⟩
   .rw[BW]
    have h1:=CM (ks:=e) (fs:=BS d);have h2:=GA d;exact lin [P.length,d.length,r.length,e.length,s.length,(iL ins (BS d) e).length,(BS d).length] [] (.b V5 AD) [.B 4 V0 Et,.D 4 (.A (.A V1 V2) K1) V0,.d (.A (.A V3 V4) K1) K4,.b V5 (.A V6 V3),.b V6 (.M 4 V1)] rfl hP hl h4 h1 h2
   .refine Y _ _ ⟨by rwa [aH],_,rfl,?_⟩
    rw[ie];exact congrArg (λz=>([.no,.no,.no,.no,.at a (.dict z),.no]:LS)) (Ir (Bi (Ee d)))
end
section
end
section
abbrev exC:Nat:=25
abbrev exP:Nat:=6
noncomputable def exs:List Nat:=[17,18,19,20,21,22,23,24,25,26,27]
noncomputable def marksOf(c:Nat):List AV:=[19,20,21,22,23,24,25,26,27,18,17].map λj=>.bool (xsub c j)
noncomputable def AV.exc?:AV->Option Nat
 |.exc c=>a0 c
 |_=>aa
theorem AV.exc?_out{a:AV}{x:Nat}(h:a.exc?=a0 x):a=.exc x:=by
 cases a with
 |exc y=>obtain rfl:=ae h;rfl
 |_=>exact(Al rfl h).elim
noncomputable def Lz(c:Nat):FS:=pureF λavs=>(one? avs).bind λa=>a.exc?.bind λd=>match cr d c with
 |true=>a0 (.list (marksOf c))
 |false=>aa
theorem marks_ok:Mh ⟨a7,exs,[],[],[]⟩ IB .val 1 0 (Lz exC):=by
 refine .pureF λy v h K U=>X1pp (AC h) λa Y g=>X1pp (AC g) λd z T=>?_;obtain rfl:=one?_out Y;rw[AV.exc?_out z]
 cases q:cr d exC with
 |false=>rw[q]at T;exact nS T
 |true =>
  rw[q]at T;obtain rfl:=ae T;rw[bP q];exact⟨rfl,Aq (bt rfl),Aq (bt rfl),Aq (bt rfl),U⟩
noncomputable def LD(c p:Nat):FS:=pureF λavs=>(two? avs).bind λq=>q.1.exc?.bind λd=>q.2.int?.bind λi=>match cr d c && (i == Int.ofNat p)with
 |true=>a0 (.bool a6)
 |false=>aa
theorem alone_ok:Mh ⟨a7,exs,[(78,Lz exC)],[],[]⟩ ID .val 1 0 (LD exC exP):=by
 refine .pureF λavs v h K U=>X1pp (AC h) λp O g=>X1pp (AC g) λd z u=>X1pp (AC u) λi Y T=>?_;obtain rfl:=two?_out O;rw[AV.exc?_out z,AV.int?_out Y]
 cases q:cr d exC && (i == Int.ofNat exP)with
 |false=>rw[q]at T;exact nS T
 |true =>
  rw[q]at T;obtain rfl:=ae T;refine An (aO.mp q) λy B=>?_;rw[bP y,eq_of_beq B];exact⟨rfl,rfl,Aq (bt rfl),a6,.py ⟨_,_,rfl,rfl,rfl,rfl,rfl⟩,U⟩
end
section
open PySem PySem.Builtin PySem.Builtin.Str
noncomputable def Bp(s sub:Str)(hi i:Nat)(r:Array Nat×Nat):Id (ForInStep (Array Nat×Nat)) :=
 if (decide (r.1.size<1) && decide (r.2<=i) && decide (i+sub.length<=hi) && subAt s sub i)=a6 then pure (.yield (r.1.push i,i+sub.length)) else pure (.yield (r.1,r.2))
theorem DD(s sub:Str)(hi:Nat):∀(L:List Nat)(f:Array Nat)(Y:Nat),(f=#[]->Y=0) ->
  (Id.run (forIn (m:=Id) L ((f,Y):Array Nat×Nat) (Bp s sub hi))).1.isEmpty=(f.isEmpty && !(L.any λi=>decide (i+sub.length<=hi) && subAt s sub i))
 |[],f,Y,h=>by simp
 |i::L,f,Y,h=>by
  rw[eh]
  by_cases q:f=#[]
  .obtain rfl:=q
   obtain rfl:=h rfl
   by_cases p:(decide (i+sub.length<=hi) && subAt s sub i)=a6
   .have e:Bp s sub hi i (#[],0)=pure (.yield (#[i],i+sub.length)):=by
     unfold Bp;rw[if_pos (by simp;simpa using p)];rfl
    rw[e];show (Id.run (forIn (m:=Id) L ((#[i],i+sub.length):Array Nat×Nat) (Bp s sub hi))).1.isEmpty=_;rw[DD s sub hi L _ _ (λz=>by simp at z)]
    rw[ij,p];simp
   .have e:Bp s sub hi i (#[],0)=pure (.yield (#[],0)):=by
     unfold Bp;rw[if_neg (by simp;simpa using p)]
    rw[e];show (Id.run (forIn (m:=Id) L ((#[],0):Array Nat×Nat) (Bp s sub hi))).1.isEmpty=_;rw[DD s sub hi L _ _ (λZ=>rfl)];have O:(decide (i+sub.length<=hi) && subAt s sub i)=a7:=by simpa using p
    rw[ij,O,Bool.false_or]
  .have e:Bp s sub hi i (f,Y)=pure (.yield (f,Y)):=by
    unfold Bp
    have:¬f.size<1:=λz=>q (Array.eq_empty_of_size_eq_zero (aq (lin [f.size] [] (.b V0 K0) [.c V0 K1] rfl z) (lin [f.size] [] (.b K0 V0) [] rfl)))
    rw[if_neg (by simp[this])]
   rw[e];show (Id.run (forIn (m:=Id) L ((f,Y):Array Nat×Nat) (Bp s sub hi))).1.isEmpty=_;rw[DD s sub hi L _ _ h]
   have:f.isEmpty=a7:=by
    cases z:f.isEmpty with|false=>rfl|true=>exact absurd (Array.isEmpty_iff.mp z) q
   simp[this]
theorem Eb(a:Array Nat)(i:Nat)(h:i<a.size):a.extract i (i+1)=#[a[i]]:=by
 apply Array.ext
 .simp;exact aq ((sub_sp (eG (i+1) a.size) i).elim (λz=>lin [eG (i+1) a.size,i,eG (i+1) a.size - i] [] (.b V2 K1) [.b V0 (.A V1 K1),.d (.A V2 V1) V0] rfl (Nat.min_le_left (i+1) a.size) z.2) (λz=>lin [eG (i+1) a.size - i] [] (.b V0 K1) [.d V0 K0] rfl z.2)) ((sub_sp (eG (i+1) a.size) i).elim (λz=>(Kt (i+1) a.size).elim (λO=>lin [eG (i+1) a.size,i,eG (i+1) a.size - i] [] (.b K1 V2) [.b V0 (.A V1 V2),.D (-1) V0 (.A V1 K1)] rfl (au.mp (aB ((eG (i+1) a.size) - (i)))) O) (λO=>lin [i,a.size,eG (i+1) a.size,eG (i+1) a.size - i] [] (.b K1 V3) [.c V0 V1,.b V2 (.A V0 V3),.D (-1) V2 V1] rfl h (au.mp (aB ((eG (i+1) a.size) - (i)))) O)) (λz=>(Kt (i+1) a.size).elim (λO=>lin [eG (i+1) a.size,i,eG (i+1) a.size - i] [] (.B 0 K1 V2) [.c V0 V1,.D (-1) V0 (.A V1 K1)] rfl z.1 O) (λO=>lin [i,a.size,eG (i+1) a.size,eG (i+1) a.size - i] [] (.B 0 K1 V3) [.c V0 V1,.c V2 V0,.D (-1) V2 V1] rfl h z.1 O)))
 .intro j y Y
  have:j=0:=by simp at Y;exact aq (lin [j] [] (.b V0 K0) [.d V0 K0] rfl Y) (lin [j] [] (.b K0 V0) [] rfl)
  subst this
  simp
theorem FL(x:Str):eS x "#"=x.cps.any (· == 35):=by
 have e:eS x "#"=!(Id.run (forIn (m:=Id) [0:x.length+1] ((#[],0):Array Nat×Nat) (Bp x "#" x.length))).1.isEmpty:=by
  unfold eS occurrences;show (!(Id.run (forIn (m:=Id) [0:x.length+1] ((#[],0):Array Nat×Nat) (Bp x "#" x.length))).1.toList.isEmpty)=_;rw[Array.isEmpty_toList]
 rw[e,eN,DD x "#" x.length _ _ _ (λZ=>rfl)];simp only[Array.isEmpty_empty,Bool.true_and,Bool.not_not];rw[Bool.eq_iff_iff,dW,Array.any_eq_true];have Y:("#":Str).length=1:=by decide
 have z:("#":Str).cps=#[35]:=by decide
 constructor
 .intro u
  obtain⟨i,hi,h⟩:=u;simp only[Y,bc,decide_eq_true_eq,subAt,z,beq_iff_eq]at h;refine An h λd y=>?_;have lt:i<x.cps.size:=d;refine⟨i,lt,?_⟩;rw[Eb _ _ lt]at y;simp at y ⊢;exact y
 .intro u
  obtain⟨i,hi,h⟩:=u;refine⟨i,by simp[Str.length];exact lin [i,x.cps.size] [] (.c V0 (.A V1 K1)) [.c V0 V1] rfl hi,?_⟩
  simp only[Y,bc,decide_eq_true_eq,subAt,z,beq_iff_eq];refine⟨hi,?_⟩;rw[Eb _ _ hi];simp at h ⊢;exact h
end
section
open PySem PySem.Builtin PySem.Builtin.Str
theorem E8(x y:Str):(x++y).cps.toList=x.cps.toList++y.cps.toList:=by
 show (Str.append x y).cps.toList=_;unfold Str.append
 simp
theorem app_len(x y:Str):(x++y).length=x.length+y.length:=by
 show (Str.append x y).cps.size=x.cps.size+y.cps.size;unfold Str.append
 simp
theorem D7(b:Array Nat):∀(n:Nat)(a:Array Nat),((aP n b).foldl (·++·) a).toList=a.toList++(aP n b.toList).flatten
 |0,a=>by simp
 |n+1,a=>by
  rw[List.replicate_succ,cU,D7 b n];simp[List.replicate_succ]
set_option tactic.hygienic true in
theorem Je(x:Str)(n:Int):(d6 x n).cps.toList=(aP n.toNat x.cps.toList).flatten:=by
 unfold d6
 split
 .rw[show n.toNat=0 by omega];rfl
 .split
  .rename_i q
   rw[d9,beq_iff_eq,beq_iff_eq]at q
   rcases q with rfl|q
   .simp
   .have:x.cps.toList=[]:=by
     have h:x.cps.size=0:=q
     rwa [<- List.length_eq_zero_iff,gx]
    rw[this];simp
  .rw[D7];simp
theorem Fr(c:Nat)(n:Int):(d6 ⟨#[c]⟩ n).cps.toList=aP n.toNat c:=by
 rw[Je];simp[List.flatten_replicate_singleton]
theorem mul_ok(u:x.length<=100)(Y:n<=100)(h0:-100<=n):MulOk x n:=by
 refine⟨?_,λz Z=>?_,λz Z=>?_⟩
 .simp;exact⟨lin [] [n] (.f B5 V0) [.f Km100 V0] rfl h0,lin [] [n] (.g V0 Cj) [.f V0 Et] rfl Y⟩
 .have:(2 ^ 63 - 1) / n >= 92233720368547758:=by
   have:(92233720368547758:Int)<=(2 ^ 63 - 1) / n:=by
    rw[Int.le_ediv_iff_mul_le (by exact lin [] [n] (.g K0 V0) [.l V0 K1] rfl z)]
    have:92233720368547758 * n<=92233720368547758 * 100:=Int.mul_le_mul_of_nonneg_left Y (by decide)
    omega
   exact this
  exact lin [x.length] [(2 ^ 63 - 1) / n] (.l V0 (.c V0)) [.b V0 Et,.f C4 V0] rfl u this
 .unfold tooLong
  have:x.length * n.toNat<=100 * 100:=dZ u (lin [n.toNat] [n] (.b V0 Et) [.f V0 Et,.h (.c V0) V0] rfl Y (an (lin [] [n] (.f K0 V0) [.l V0 K1] rfl z)))
  simp[sizeLine];exact lin [x.length * n.toNat] [] (.b V0 A7) [.b V0 (.M 100 Et)] rfl this
theorem Gl(O:List Str):(Txt.join "" O).cps.toList=(O.map (·.cps.toList)).flatten:=by
 have u:("":Str).cps=#[]:=by decide +kernel
 have key:∀(l:List Str)(a:Array Nat),(l.foldl (λacc p=>acc++("":Str).cps++p.cps) a).toList=a.toList++(l.map (·.cps.toList)).flatten:=by
  intro l
  induction l with|nil=>intro a;simp|cons p l Y=>intro a;rw[cU,Y,u];simp
 unfold Txt.join glued
 cases O with|nil=>rfl|cons y r=>simp only[List.headD_cons,List.drop_one,List.tail_cons];rw[key];simp
end
section
noncomputable def sgn:Bool->Nat
 |true=>35
 |false=>46
noncomputable def Ca(r:List Bool):Str:=⟨(r.map sgn).toArray⟩
abbrev Gr:=List (List Bool)
noncomputable def AA(G:Gr):List AV:=G.map λr=>.str (Ca r)
structure Mr(G:Gr)(w:Nat):Prop where
 h1:1<=G.length
 h6:G.length<=6
 w1:1<=w
 w6:w<=6
 len:∀r∈G,r.length=w
theorem A4(r:List Bool):(Ca r).length=r.length:=by
 show (Ca r).cps.size=_;unfold Ca;simp
theorem EH(r:List Bool):(Ca r).cps.all (·<128)=a6:=by
 rw[fQ];intro c d
 have:c∈r.map sgn:=by unfold Ca at d;simpa using d
 refine X1pr c (aJ.mp this) λb Z=>?_
 cases b<;>rfl
theorem J4(r:List Bool):eS (Ca r) "#"=r.any id:=by
 rw[FL]
 have:(Ca r).cps.any (· == 35)=(r.map sgn).any (· == 35):=by unfold Ca;simp
 rw[this,iF]
 congr 1
 funext b
 cases b<;>rfl
noncomputable def Ck(y x:Int):List Bool->List Sp
 |[]=>[]
 |b::r=>match b with
  |true=>(x,y)::Ck y (x+1) r
  |false=>Ck y (x+1) r
noncomputable def BH(y:Int):Gr->List Sp
 |[]=>[]
 |r::G=>Ck y 0 r++BH (y+1) G
noncomputable def Ae(G:Gr):List Sp:=BH 0 G
theorem Fi:∀{r:List Bool}{x:Int},(Ck y x r).length<=r.length
 |[],_=>aB _
 |b::r,x=>by
  have:=Fi (y:=y) (r:=r) (x:=x+1)
  cases b
  .show (Ck y (x+1) r).length<=r.length+1;exact lin [(Ck y (x+1) r).length,r.length] [] (.b V0 (.A V1 K1)) [.b V0 V1] rfl this
  .show (Ck y (x+1) r).length+1<=r.length+1;exact lin [(Ck y (x+1) r).length,r.length] [] (.b (.A V0 K1) (.A V1 K1)) [.b V0 V1] rfl this
theorem Cf:∀{G:Gr}{y:Int},(∀r∈G,r.length=w)->(BH y G).length<=G.length * w
 |[],_,_=>cR _
 |r::G,y,h=>by
  rw[BH,ar,aL,Nat.succ_mul];have T:=Fi (y:=y) (r:=r) (x:=0);have z:=Cf (y:=y+1) λs hs=>h s (.tail _ hs);have Y:=h r (.head _);exact lin [(Ck y 0 r).length,r.length,(BH (y+1) G).length,G.length * w,w] [] (.b (.A V0 V2) (.A V3 V4)) [.b V0 V1,.b V2 V3,.d V1 V4] rfl T z Y
theorem Mr.cells(g:Mr G w):(Ae G).length<=36:=by
 have Y:=Cf (y:=0) g.len;have z:G.length * w<=6 * 6:=dZ g.h6 g.w6;unfold Ae;exact lin [(BH 0 G).length,bW G * w] [] (.b V0 K36) [.b V0 V1,.b V1 (.M 6 K6)] rfl Y z
def bit(r:List Bool)(x:Int):Prop:=0<=x/\r[x.toNat]?=a0 a6
theorem rowC_mem:∀{r:List Bool}{x:Int},k∈Ck y x r↔k.2=y/\bit r (k.1 - x)
 |[],x=>by
  constructor
  .intro h;cases h
  .rintro ⟨_,_,h⟩;exact nS h
 |b::r,x=>by
  have T:=rowC_mem (y:=y) (k:=k) (r:=r) (x:=x+1);have key:k.2=y/\bit (b::r) (k.1 - x)↔(k=(x,y)/\b=a6)\/(k.2=y/\bit r (k.1 - (x+1))):=by
   unfold bit
   by_cases e:k.1=x
   .have O:(k.1 - x).toNat=0:=by exact aq (lin [(k.fst - x).toNat] [k.fst,x] (.b V0 K0) [.h V0 V1,.h (.c V0) (.S V0 V1)] rfl e (an (lin [] [k.fst,x] (.f K0 (.S V0 V1)) [.H (-1) V0 V1] rfl e))) (lin [(k.fst - x).toNat] [] (.b K0 V0) [] rfl)
    rw[O]
    constructor
    .exact λu=>Bo u λY Z z=>.inl ⟨bX e Y,ae z⟩
    .rintro (⟨Y,z⟩|⟨_,z,_⟩)
     .clear T e O;subst Y;subst z;exact⟨rfl,lin [] [(x,y).fst] (.f K0 (.S V0 V0)) [] rfl,rfl⟩
     .omega
   .constructor
    .refine λu=>Bo u λY z U=>.inr ⟨Y,(aW e).elim (λd=>lin [] [k.fst,x] (.F 0 K0 (.S V0 (.A V1 K1))) [.f K0 (.S V0 V1),.g V0 V1] rfl z d) (λd=>lin [] [x,k.fst] (.f K0 (.S V1 (.A V0 K1))) [.g V0 V1] rfl d),?_⟩
     rw[show (k.1 - x).toNat=(k.1 - (x+1)).toNat+1 by exact aq (lin [(k.fst - (x+1)).toNat,(k.fst - x).toNat] [k.fst,x] (.b V1 (.A V0 K1)) [.f (.S V0 (.A V1 K1)) (.c V0),.h (.c V1) (.S V0 V1)] rfl (aI (k.fst - (x+1))) (an (lin [] [k.fst,x] (.f K0 (.S V0 V1)) [.f K0 (.S V0 V1)] rfl z))) ((aW e).elim (λd=>lin [(k.fst - (x+1)).toNat,(k.fst - x).toNat] [k.fst,x] (.B 0 (.A V0 K1) V1) [.f K0 (.S V0 V1),.g V0 V1] rfl z d) (λd=>lin [(k.fst - x).toNat,(k.fst - (x+1)).toNat] [k.fst,x] (.b (.A V1 K1) V0) [.f (.S V0 V1) (.c V0),.h (.c V1) (.S V0 (.A V1 K1))] rfl (aI (k.fst - x)) (an (lin [] [x,k.fst] (.f K0 (.S V1 (.A V0 K1))) [.g V0 V1] rfl d))))]at U
     exact U
    .rintro (⟨Y,_⟩|⟨Y,z,U⟩)
     .exact absurd (congrArg dK Y) e
     .refine⟨Y,lin [] [k.fst,x] (.f K0 (.S V0 V1)) [.f K0 (.S V0 (.A V1 K1))] rfl z,?_⟩
      rw[show (k.1 - x).toNat=(k.1 - (x+1)).toNat+1 by exact aq (lin [(k.fst - (x+1)).toNat,(k.fst - x).toNat] [k.fst,x] (.b V1 (.A V0 K1)) [.f (.S V0 (.A V1 K1)) (.c V0),.h (.c V1) (.S V0 V1)] rfl (aI (k.fst - (x+1))) (an (lin [] [k.fst,x] (.f K0 (.S V0 V1)) [.f K0 (.S V0 (.A V1 K1))] rfl z))) (lin [(k.fst - x).toNat,(k.fst - (x+1)).toNat] [k.fst,x] (.b (.A V1 K1) V0) [.f (.S V0 V1) (.c V0),.h (.c V1) (.S V0 (.A V1 K1))] rfl (aI (k.fst - x)) (an (lin [] [k.fst,x] (.f K0 (.S V0 (.A V1 K1))) [.f K0 (.S V0 (.A V1 K1))] rfl z)))]
      exact U
  rw[key,<- T]
  cases b
  .show k∈Ck y (x+1) r↔_
   simp
  .show k∈(x,y)::Ck y (x+1) r↔_
   rw[az];simp
def has(G:Gr)(k:Sp):Prop:=0<=k.2/\∃r,G[k.2.toNat]?=a0 r/\bit r k.1
theorem cellsF_mem:∀{G:Gr}{y:Int},k∈BH y G↔has G (k.1,k.2 - y)
 |[],y=>by
  constructor
  .intro h;cases h
  .rintro ⟨_,r,h,_⟩;exact nS h
 |r::G,y=>by
  rw[BH,aK,rowC_mem,cellsF_mem (G:=G)];unfold has;dsimp only;rw[fR]
  by_cases e:k.2=y
  .have U:(k.2 - y).toNat=0:=by exact aq (lin [(k.snd - y).toNat] [k.snd,y] (.b V0 K0) [.h V0 V1,.h (.c V0) (.S V0 V1)] rfl e (an (lin [] [k.snd,y] (.f K0 (.S V0 V1)) [.H (-1) V0 V1] rfl e))) (lin [(k.snd - y).toNat] [] (.b K0 V0) [] rfl)
   rw[U]
   constructor
   .rintro (⟨_,h⟩|⟨h,_⟩)
    .exact⟨lin [] [k.snd,y] (.f K0 (.S V0 V1)) [.H (-1) V0 V1] rfl e,r,rfl,h⟩
    .omega
   .exact λu=>An u λZ Z0=>X1pp Z0 λO Y T=>.inl ⟨e,by rw[ae Y];exact T⟩
  .constructor
   .rintro (⟨h,_⟩|⟨h,O,Y,T⟩)
    .exact absurd h e
    .refine⟨lin [] [k.snd,y] (.f K0 (.S V0 V1)) [.f K0 (.S V0 (.A V1 K1))] rfl h,O,?_,T⟩
     rw[show (k.2 - y).toNat=(k.2 - (y+1)).toNat+1 by exact aq (lin [(k.snd - (y+1)).toNat,(k.snd - y).toNat] [k.snd,y] (.b V1 (.A V0 K1)) [.f (.S V0 (.A V1 K1)) (.c V0),.h (.c V1) (.S V0 V1)] rfl (aI (k.snd - (y+1))) (an (lin [] [k.snd,y] (.f K0 (.S V0 V1)) [.f K0 (.S V0 (.A V1 K1))] rfl h))) (lin [(k.snd - y).toNat,(k.snd - (y+1)).toNat] [k.snd,y] (.b (.A V1 K1) V0) [.f (.S V0 V1) (.c V0),.h (.c V1) (.S V0 (.A V1 K1))] rfl (aI (k.snd - y)) (an (lin [] [k.snd,y] (.f K0 (.S V0 (.A V1 K1))) [.f K0 (.S V0 (.A V1 K1))] rfl h)))];exact Y
   .refine λu=>An u λh d=>X1pp d λO Y T=>.inr ⟨(aW e).elim (λz=>lin [] [k.snd,y] (.F 0 K0 (.S V0 (.A V1 K1))) [.f K0 (.S V0 V1),.g V0 V1] rfl h z) (λz=>lin [] [y,k.snd] (.f K0 (.S V1 (.A V0 K1))) [.g V0 V1] rfl z),O,?_,T⟩
    rw[show (k.2 - y).toNat=(k.2 - (y+1)).toNat+1 by exact aq (lin [(k.snd - (y+1)).toNat,(k.snd - y).toNat] [k.snd,y] (.b V1 (.A V0 K1)) [.f (.S V0 (.A V1 K1)) (.c V0),.h (.c V1) (.S V0 V1)] rfl (aI (k.snd - (y+1))) (an (lin [] [k.snd,y] (.f K0 (.S V0 V1)) [.f K0 (.S V0 V1)] rfl h))) ((aW e).elim (λz=>lin [(k.snd - (y+1)).toNat,(k.snd - y).toNat] [k.snd,y] (.B 0 (.A V0 K1) V1) [.f K0 (.S V0 V1),.g V0 V1] rfl h z) (λz=>lin [(k.snd - y).toNat,(k.snd - (y+1)).toNat] [k.snd,y] (.b (.A V1 K1) V0) [.f (.S V0 V1) (.c V0),.h (.c V1) (.S V0 (.A V1 K1))] rfl (aI (k.snd - y)) (an (lin [] [y,k.snd] (.f K0 (.S V1 (.A V0 K1))) [.g V0 V1] rfl z))))]at Y;exact Y
theorem cellsOf_mem:k∈Ae G↔has G k:=by
 unfold Ae;rw[cellsF_mem,fR]
theorem Mr.in(g:Mr G w)(h:k∈Ae G):0<=k.1/\k.1<w/\0<=k.2/\k.2<G.length:=by
 refine An (cellsOf_mem.mp h) λu O=>X1ppp O λr y Y B=>?_;have d:k.2.toNat<G.length:=by
  rcases bO k.2.toNat G.length with z|z
  .exact z
  .rw[aZ z]at y;exact nS y
 have T:k.1.toNat<r.length:=by
  rcases bO k.1.toNat r.length with z|z
  .exact z
  .rw[aZ z]at B;exact nS B
 rw[g.len r (ah y)]at T;exact⟨lin [] [k.fst] (.f K0 V0) [.f K0 V0] rfl Y,⟨lin [k.fst.toNat,w] [k.fst] (.g V0 (.c V1)) [.c V0 V1,.f V0 (.c V0)] rfl T (aI k.fst),⟨lin [] [k.snd] (.f K0 V0) [.f K0 V0] rfl u,lin [k.snd.toNat,bW G] [k.snd] (.g V0 (.c V1)) [.c V0 V1,.f V0 (.c V0)] rfl d (aI k.snd)⟩⟩⟩
end
section
noncomputable def GH:At:=⟨[0x3a0001e0000e000073,527765816213619,0x378001a0000d400074],1,[.ite (.or [.not (.call (.g 1) [.v 0,.g 5]),.not (.cmp2 .LtE .LtE (.int 1) (.call (.g 0) [.v 0]) (.g 28))]) [.ret (.bool a7)] [],.for_ (.v 1) (.v 0) [.ite (.or [.not (.call (.g 1) [.v 1,.g 6]),.not (.cmp2 .LtE .LtE (.int 1) (.call (.g 0) [.v 1]) (.g 28))]) [.ret (.bool a7)] []],.for_ (.v 1) (.v 0) [.ite (.or [.cmp .NotEq (.call (.g 0) [.v 1]) (.call (.g 0) [.sub (.v 0) (.int 0)]),.not (.call (.g 15) [.comp (.cmp .In (.v 2) (.tup [.str "#",.str "."])) 2 (.v 1) []])]) [.ret (.bool a7)] []],.ret (.call (.g 16) [.comp (.cmp .In (.str "#") (.v 1)) 1 (.v 0) []])]⟩
noncomputable def c_Finit:At:=⟨[0x338001b4000cc00074,0x3a0001e0000e000073,122,527765816213619,121,0x378001a0000d400074,0xca0006f0003b0001c0000e600062],2,[.ite (.not (.call (.g 36) [.v 1])) [.raise (.call (.g 19) [.str "no rows of a floor"])] [],.setattr (.v 0) 11 (.call (.g 5) [.v 1]),.setattr (.v 0) 12 (.mu 2 (.dict [] [])),.for_ (.tup [.v 2,.v 3]) (.call (.g 9) [.v 1]) [.for_ (.tup [.v 4,.v 5]) (.call (.g 9) [.v 3]) [.ite (.cmp .Eq (.v 5) (.str "#")) [.setitem (.attr (.v 0) 12) (.tup [.v 4,.v 2]) (.bool a6)] []]],.ite (.cmp .NotEq (.call (.g 0) [.call (.g 35) [.sub (.call (.g 5) [.attr (.v 0) 12]) (.int 0),.attr (.v 0) 12]]) (.call (.g 0) [.attr (.v 0) 12])) [.raise (.call (.g 20) [.str "the cells don't hang together"])] [],.assign (.v 6) (.meth (.v 0) 13 []),.ite (.cmp .NotEq (.call (.g 0) [.call (.g 35) [.tup [.neg (.int 1),.neg (.int 1)],.v 6]]) (.call (.g 0) [.v 6])) [.raise (.call (.g 21) [.str "the floor has a hole"])] []]⟩
noncomputable def GI:At:=⟨[0x338001b4000cc00074,0x65000378001d8000e000067,122,121],1,[.assign (.v 1) (.mu 4 (.dict [] [])),.for_ (.v 2) (.call (.g 8) [.neg (.int 1),.bin .Add (.call (.g 0) [.attr (.v 0) 11]) (.int 1)]) [.for_ (.v 3) (.call (.g 8) [.neg (.int 1),.bin .Add (.call (.g 0) [.sub (.attr (.v 0) 11) (.int 0)]) (.int 1)]) [.ite (.cmp .NotIn (.tup [.v 3,.v 2]) (.attr (.v 0) 12)) [.setitem (.v 1) (.tup [.v 3,.v 2]) (.bool a6)] []]],.ret (.v 1)]⟩
noncomputable def Cm:At:=⟨[0x740003c0001c0000e6000600003c000188000da00060,0x3c0001c0000e6000600003c000188000da00060,0xf2000600003c000188000da00060],1,[.ret (.comp (.meth (.str "") 8 [.comp (.sub (.v 1) (.v 2)) 1 (.v 0) []]) 2 (.call (.g 8) [.call (.g 0) [.sub (.v 0) (.int 0)]]) [])]⟩
noncomputable def E2:At:=⟨[0x6d00036800198000c8000600003c000188000da00060,0x66000398001c0000dc000600003c000188000da00060,0x6f000330001dc000cc000600003c000188000da00060,0xd200075000328001a8000f0000600003c000188000da00060,0x740003c0001c0000e6000600003c000188000da00060,0x3c0001c0000da000600003c000188000da00060,0x69000340001a8000d2000600003c000188000da00060,0xf4000600003c000188000da00060,0x1cc000cc00063000370001d8000de000600003c000188000da00060,0x660003d8001a8000e8000600003c000188000da00060,0xea0007400031000198000da000600003c000188000da00060,0xde0006a00034000198000c6000600003c000188000da00060],3,[.assign (.v 3) (.bin .Add (.int 2) (.bin .Mod (.v 0) (.int 5))),.assign (.v 4) (.mu 4 (.list [])),.assign (.tup [.v 5,.v 6]) (.tup [.int 0,.bin .Sub (.v 3) (.int 1)]),.for_ (.v 7) (.call (.g 8) [.bin .Add (.int 1) (.bin .Mod (.bin .FloorDiv (.v 0) (.int 5)) (.int 6))]) [.assign (.v 8) (.call (.g 73) [.v 1,.v 7]),.assign (.v 9) (.ite (.v 2) (.bin .Mult (.int 2) (.bin .Add (.int 1) (.bin .Mod (.v 8) (.bin .FloorDiv (.v 3) (.int 2))))) (.bin .Add (.int 1) (.bin .Mod (.v 8) (.v 3)))),.assign (.v 10) (.call (.g 14) [.int 0,.bin .Add (.bin .Sub (.v 5) (.v 9)) (.int 1)]),.assign (.v 11) (.bin .Add (.v 10) (.bin .Mod (.bin .FloorDiv (.v 8) (.int 30)) (.bin .Add (.bin .Sub (.call (.g 13) [.bin .Sub (.v 3) (.v 9),.v 6]) (.v 10)) (.int 1)))),.expr (.meth (.v 4) 0 [.bin .Add (.bin .Add (.bin .Mult (.str ".") (.v 11)) (.bin .Mult (.str "#") (.v 9))) (.bin .Mult (.str ".") (.bin .Sub (.bin .Sub (.v 3) (.v 11)) (.v 9)))]),.assign (.tup [.v 5,.v 6]) (.tup [.v 11,.bin .Sub (.bin .Add (.v 11) (.v 9)) (.int 1)])],.ret (.v 4)]⟩
theorem sign_in(b:Bool):InP (.str ⟨#[sgn b]⟩) (.tup [.str "#",.str "."]) a6:=by
 cases b
 .exact⟨_,_,rfl,.inr rfl,by decide +kernel,by decide +kernel,by decide +kernel,by decide +kernel⟩
 .exact⟨_,_,rfl,.inr rfl,by decide +kernel,by decide +kernel,by decide +kernel,by decide +kernel⟩
theorem DP(r:List Bool):C8 (Ca r)=r.map λb=>.str ⟨#[sgn b]⟩:=by
 unfold C8 Ca;show ((r.map sgn).map _)=_;rw[aV];rfl
inductive Q2(avs:List AV)(V:LS)(K:KR):Prop
 |mk (a:_)(G:Gr)(w:_)(c0:avs=[.loc a 0])(c1:V=[.at a (.list (AA G))])(c2:Mr G w)(c3:(G.any λr=>r.any id)=a6)(c4:K ⟨[],.val (.bool a6)⟩ [.at a (.list (AA G))]):Q2 avs V K
noncomputable def fArows:FS:=specF λavs V K X=>Q2 avs V K
noncomputable def arM(a:bg)(x:Option AV):M:=[a0 (.loc a 0),x,aa]
noncomputable def arL(a:bg)(G:Gr):LS:=[.at a (.list (AA G))]
inductive ArwJ(a:bg)(G:Gr)(d r:Gr):M->LS->Prop
 |mk (hs:∀x∈r,x∈G)(x:Option AV):ArwJ a G d r (arM a x) (arL a G)
noncomputable abbrev tAr:Tab:=⟨a6,[28],[],[],[]⟩
theorem Mr.fst(g:Mr G w):∃d,(AA G)[0]?=a0 (.str (Ca d))/\d.length=w:=by
 have h1:=g.h1;have len:=g.len;clear g
 cases G with|nil=>exact absurd h1 (by decide)|cons d G=>exact⟨d,rfl,len d (.head _)⟩
theorem G2(e:r.length=w)(h:w<=6):(Ca r).length<=big:=by rw[A4,e];exact Aq (am h (by decide))
theorem arows_1{KK:KS}{a:bg}{G d s:Gr}{r:List Bool}{w:Nat}{m:M}{V:LS}{C:M->LS->Prop}(g:Mr G w)(j:ArwJ a G d (r::s) m V)(B:∀Ar Ab,ArwJ a G (d++[r]) s Ar Ab->C Ar Ab) :
  patW a6 (.v 1) (.str (Ca r)) m (λAo=>wpSs tAr [.ite (.or [.not (.call (.g 1) [.v 1,.g 6]),.not (.cmp2 .LtE .LtE (.int 1) (.call (.g 0) [.v 1]) (.g 28))]) [.ret (.bool a7)] []] X Ao V (Fu (a0 0) V C KK)):=by
 induction j using ArwJ.casesOn with
 |mk hs x =>
  have lr:=g.len r (hs r (.head _));have w6:=g.w6;have w1:=g.w1;exact⟨G2 lr w6,ifT (by rw[A4,decide_eq_true_eq];exact lin [r.length,w] [] (.f K1 (.c V0)) [.D (-1) V0 V1,.b K1 V1] rfl lr w1) (ifF (by rw[A4,Bool.not_eq_false',decide_eq_true_eq];exact lin [r.length,w] [] (.f (.c V0) K6) [.d V0 V1,.b V1 K6] rfl lr w6) ⟨rfl,B _ _ (.mk (λy u=>hs y (.tail _ u)) _)⟩)⟩
theorem arows_2{KK:KS}{a:bg}{G d s:Gr}{r:List Bool}{w:Nat}{m:M}{V:LS}{C:M->LS->Prop}(g:Mr G w)(j:ArwJ a G d (r::s) m V)(O:∀Ar Ab,ArwJ a G (d++[r]) s Ar Ab->C Ar Ab) :
  patW a6 (.v 1) (.str (Ca r)) m (λAo=>wpSs tAr [.ite (.or [.cmp .NotEq (.call (.g 0) [.v 1]) (.call (.g 0) [.sub (.v 0) (.int 0)]),.not (.call (.g 15) [.comp (.cmp .In (.v 2) (.tup [.str "#",.str "."])) 2 (.v 1) []])]) [.ret (.bool a7)] []] X Ao V (Fu (a0 0) V C KK)):=by
 induction j using ArwJ.casesOn with
 |mk hs x =>
  have lr:=g.len r (hs r (.head _));have w6:=g.w6;refine X1pp g.fst λz U B=>⟨G2 lr w6,rfl,_,U,G2 B w6,ifF (by rw[A4,A4,lr,B,beq_self_eq_true];rfl) ⟨EH r,Aq (by rw[DP,aj,lr];exact am w6 (by decide)),AZ (r:=r) (g:=λb=>.str ⟨#[sgn b]⟩) (f:=λZ=>.bool a6) (DP r) (λb T C h=>⟨_,sign_in b,h⟩) ⟨r.map λZ=>a6,by rw[aV];rfl,?_⟩⟩⟩
  rw[List.all_map,show (r.all (id ∘ λZ=>a6))=a6 by simp]
  exact⟨rfl,O _ _ (.mk (λy u=>hs y (.tail _ u)) _)⟩
theorem arows_ok:Mh tAr GH .val 2 0 fArows:=by
 refine .specF λy V K X h=>?_;obtain⟨a,G,w,rfl,rfl,g,T,U⟩:=h;have Y:(AA G).length=G.length:=by unfold AA;rw[aj]
 have h1:=g.h1;have h6:=g.h6;have z:(AA G).length<=big:=by rw[Y];exact Aq (am h6 (by decide))
 refine⟨rfl,rfl,rfl,z,ifT (by rw[Y,decide_eq_true_eq];exact lin [bW G] [] (.f K1 (.c V0)) [.b K1 V0] rfl h1) (ifF (by rw[Y,Bool.not_eq_false',decide_eq_true_eq];exact lin [bW G] [] (.f (.c V0) K6) [.b V0 K6] rfl h6) ⟨rfl,AS (r:=G) (g:=λr=>.str (Ca r)) rfl (ArwJ a G) (λd m V j=>?_) (λd r s m V j C B=>arows_1 g j B) (d:=[]) (.mk (λZ h=>h) _)⟩)⟩
 induction j using ArwJ.casesOn with
 |mk _ x =>
  refine⟨rfl,AS (r:=G) (g:=λr=>.str (Ca r)) rfl (ArwJ a G) (λd m V j=>?_) (λd r s m V j C B=>arows_2 g j B) (d:=[]) (.mk (λZ h=>h) _)⟩
  induction j using ArwJ.casesOn with
  |mk _ x =>
   refine⟨rfl,z,AZ (r:=G) (g:=λr=>.str (Ca r)) (f:=λr=>.bool (r.any id)) rfl (λr u C h=>⟨_,J4 r,h⟩) ⟨G.map λr=>r.any id,by rw[aV];rfl,?_⟩⟩
   rw[iF,show (id ∘ λr:List Bool=>r.any id)=λr=>r.any id from rfl,T]
   exact U
end
section
noncomputable def Jp(i:Nat):List AV->List AV
 |[]=>[]
 |x::r=>.tup [.int i,x]::Jp (i+1) r
theorem Du:∀(l:List AV)(i:Nat),(l.mapIdx λj x=>(.tup [.int ((i+j:Nat):Int),x]:AV))=Jp i l
 |[],_=>rfl
 |x::r,i=>by
  rw[List.mapIdx_cons];have u:=Du r (i+1);rw[Jp,<- u,Nat.add_zero]
  congr 1
  apply eB;intro j;rw[ge,ge]
  congr 1
  funext y
  congr 3
  exact af (lin [i,j] [] (.f (.c (.A V0 (.A V1 K1))) (.c (.A (.A V0 K1) V1))) [] rfl) (lin [i,j] [] (.f (.c (.A (.A V0 K1) V1)) (.c (.A V0 (.A V1 K1)))) [] rfl)
theorem LH(l:List AV):CQ l=Jp 0 l:=by
 rw[<- Du l 0];unfold CQ
 simp
set_option tactic.hygienic true in
theorem Hl{α:Type}{g:α->AV}{q:Bool}{p:Pat}{body:M->LS->KS->Prop}{ok:Option Nat}{K:KS}(J:List α->List α->M->LS->Prop)(y:∀d m V,J d [] m V->K .next m V)
  (hs:∀d x r m V,J d (x::r) m V->∀C:M->LS->Prop,(∀U z,J (d++[x]) r U z->C U z)->patW q p (.tup [.int d.length,g x]) m (λAo=>body Ao V (Fu ok V C K))):∀{r d:List α}{m:M}{V:LS},J d r m V->Jm q p body ok K (Jp d.length (r.map g)) m V
 |[],d,m,V,h=>y d m V h
 |x::r,d,m,V,h=>hs d x r m V h (Jm q p body ok K (Jp (d.length+1) (r.map g))) λU z h=>by
  have:=Hl J y hs h
  rw[ar]at this;exact this
theorem F5{y:Int}{b:Bool}:∀{e:List Bool}{x:Int},Ck y x (e++[b])=Ck y x e++Ck y (x+e.length) [b]
 |[],x=>by rw[gv,dg];show _=Ck y (x+0) [b];rw[bB]
 |c::e,x=>by
  have u:=F5 (y:=y) (b:=b) (e:=e) (x:=x+1);rw[aL,show x+((e.length+1:Nat):Int)=x+1+e.length by exact af (lin [e.length] [x] (.f (.A V0 (.c (.A V0 K1))) (.A (.A V0 K1) (.c V0))) [] rfl) (lin [e.length] [x] (.f (.A (.A V0 K1) (.c V0)) (.A V0 (.c (.A V0 K1)))) [] rfl)]
  cases c
  .exact u
  .show (x,y)::Ck y (x+1) (e++[b])=(x,y)::(Ck y (x+1) e++_)
   rw[u]
theorem Cv{r:List Bool}:∀{d:Gr}{y:Int},BH y (d++[r])=BH y d++Ck (y+d.length) 0 r
 |[],y=>by
  rw[gv];show Ck y 0 r++[]=[]++Ck (y+0) 0 r;rw[aF,bB];rfl
 |c::d,y=>by
  have Y:=Cv (r:=r) (d:=d) (y:=y+1);rw[aL,show y+((d.length+1:Nat):Int)=y+1+d.length by exact af (lin [d.length] [y] (.f (.A V0 (.c (.A V0 K1))) (.A (.A V0 K1) (.c V0))) [] rfl) (lin [d.length] [y] (.f (.A (.A V0 K1) (.c V0)) (.A V0 (.c (.A V0 K1)))) [] rfl)]
  show Ck y 0 c++BH (y+1) (d++[r])=(Ck y 0 c++BH (y+1) d)++_;rw[Y,aH]
theorem Jl{d:Gr}{e:List Bool}:(((e.length:Int),(d.length:Int)):Ah)∉Ae d++Ck d.length 0 e:=by
 intro h
 rcases aK.mp h with h|h
 .refine An (cellsOf_mem.mp h) λZ u=>X1pp u λr Y Z=>?_
  rw[show ((e.length:Int),(d.length:Int)).2.toNat=d.length from b7 _,aZ (aB _)]at Y
  exact nS Y
 .refine Bo (rowC_mem.mp h) λZ Z Y=>?_
  rw[show (((e.length:Int),(d.length:Int)).1 - 0).toNat=e.length by show ((e.length:Int) - 0).toNat=_;rw[fR];rfl,aZ (aB _)]at Y
  exact nS Y
noncomputable def Ci(P vs:List Ah):List Ah:=(vs.filter λk=>!decide (k∈P)).foldl ins []
theorem Lm{P vs:List Ah}{k:Ah}:k∈Ci P vs↔k∈vs/\k∉P:=by
 unfold Ci;rw[BP,cA]
 simp
theorem D4{P vs:List Ah}:(Ci P vs).Nodup:=Bi fO
theorem freeF_in{P vs:List Ah}{k:Ah}(h:k∈P):Ci P (vs++[k])=Ci P vs:=by
 unfold Ci;rw[gR,fu (by simp[h]),iN,aF]
theorem Ll{P vs:List Ah}{k:Ah}(h:k∉P):Ci P (vs++[k])=ins (Ci P vs) k:=by
 unfold Ci;rw[gR,fq (by simp[h]),iN,ie];rfl
theorem Gm{P vs:List Ah}:(Ci P vs).length<=vs.length:=by
 unfold Ci;have Y:=CM (ks:=vs.filter λk=>!decide (k∈P)) (fs:=[]);have z:=dA (λk=>!decide (k∈P)) vs;rw[dg]at Y;exact lin [(iL ins [] (List.filter (λk=>!decide (k∈P)) vs)).length,(List.filter (λk=>!decide (k∈P)) vs).length,vs.length] [] (.b V0 V2) [.b V0 (.A K0 V1),.b V1 V2] rfl Y z
noncomputable def box(xs ys:List Int):List Ah:=ys.flatMap λy=>xs.map λx=>(x,y)
theorem Hy(xs O:List Int):(box xs O).length=O.length * xs.length:=by
 unfold box
 induction O with|nil=>simp|cons y O Y=>rw[ig,ar,Y,aj,aL,Nat.succ_mul,Nat.add_comm]
theorem box_mem{xs ys:List Int}{k:Ah}:k∈box xs ys↔k.1∈xs/\k.2∈ys:=by
 unfold box;rw[dY]
 constructor
 .exact λu=>X1pp u λy z h=>X1pr k (aJ.mp h) λx O=>⟨O,z⟩
 .exact λu=>An u λO z=>⟨k.2,z,aJ.mpr ⟨k.1,O,rfl⟩⟩
theorem box_snoc(xs O:List Int)(y:Int):box xs (O++[y])=box xs O++xs.map λx=>(x,y):=by
 unfold box;rw[List.flatMap_append];simp
noncomputable def AL(P:List Ah)(w h:Nat):List Ah:=Ci P (box (ivs (-1) (w+2)) (ivs (-1) (h+2)))
theorem around_mem{P:List Ah}{w h:Nat}{k:Ah}:k∈AL P w h↔((-1<=k.1/\k.1<=w)/\(-1<=k.2/\k.2<=h))/\k∉P:=by
 unfold AL;rw[Lm,box_mem,ivs_mem,ivs_mem]
 constructor
 .intro u
  obtain⟨⟨⟨B,z⟩,Y,y⟩,O⟩:=u;exact⟨⟨⟨lin [] [k.fst] (.f Km1 V0) [.f Km1 V0] rfl B,lin [w] [k.fst] (.f V0 (.c V0)) [.g V0 (.A Km1 (.c (.A V0 K2)))] rfl z⟩,⟨lin [] [k.snd] (.f Km1 V0) [.f Km1 V0] rfl Y,lin [h] [k.snd] (.f V0 (.c V0)) [.g V0 (.A Km1 (.c (.A V0 K2)))] rfl y⟩⟩,O⟩
 .intro u
  obtain⟨⟨⟨B,z⟩,Y,y⟩,O⟩:=u;exact⟨⟨⟨lin [] [k.fst] (.f Km1 V0) [.f Km1 V0] rfl B,lin [w] [k.fst] (.g V0 (.A Km1 (.c (.A V0 K2)))) [.f V0 (.c V0)] rfl z⟩,⟨lin [] [k.snd] (.f Km1 V0) [.f Km1 V0] rfl Y,lin [h] [k.snd] (.g V0 (.A Km1 (.c (.A V0 K2)))) [.f V0 (.c V0)] rfl y⟩⟩,O⟩
theorem Jy{P:List Ah}{G:Gr}{w:Nat}(g:Mr G w):(AL P w G.length).length<=64:=by
 refine am Gm ?_;rw[Hy,AB,AB];exact dZ (show G.length+2<=8 by have:=g.h6;exact lin [bW G] [] (.b (.A V0 K2) K8) [.b V0 K6] rfl this) (show w+2<=8 by have:=g.w6;exact lin [w] [] (.b (.A V0 K2) K8) [.b V0 K6] rfl this)
inductive Q1(avs:List AV)(V:LS)(K:KR):Prop
 |mk (x:_)(dx:_)(o:_)(G:Gr)(w:_)(P:List Sp)(tl:_)(c0:avs=[.loc x 0])(c1:V=[.at x (.inst dx),.at dx (.attrs (FW (.list (AA G)) (.loc o 2))),.at o (.dict (tt P)),tl])(c2:Mr G w)(c3:K ⟨[.dict (tt (AL P w G.length))],.new 0⟩ V):Q1 avs V K
noncomputable def LC:FS:=⟨λZ=>aa,λavs V K X=>Q1 avs V K,a6⟩
theorem Mr.first{G:Gr}{w:Nat}(g:Mr G w):∃d,G[0]?=a0 d/\d.length=w:=by
 have h1:=g.h1;have len:=g.len;clear g
 cases G with|nil=>exact absurd h1 (by decide)|cons d G=>exact⟨d,rfl,len d (.head _)⟩
theorem gridA_at{G:Gr}{n:Nat}{r:List Bool}(h:G[n]?=a0 r):(AA G)[n]?=a0 (.str (Ca r)):=by
 unfold AA;rw[aM,h];rfl
theorem CL{G:Gr}{w:Nat}(g:Mr G w):(AA G).length<=1000:=by
 unfold AA;rw[aj];exact am g.h6 (by decide)
theorem Ig(G:Gr):(AA G).length=G.length:=by unfold AA;rw[aj]
theorem rowS_big{r:List Bool}{w:Nat}(e:r.length=w)(h:w<=6):(Ca r).length<=big:=by
 rw[A4,e];exact Aq (am h (by decide))
theorem F3{n:Nat}(h:n<=6):cC (-1) ((n:Int)+1) 1=a6:=BZ (by decide) (by decide) (lin [n] [] (.f Bj (.A (.c V0) K1)) [] rfl) (lin [n] [] (.f (.A (.c V0) K1) Aw) [.b V0 K6] rfl h)
theorem J7(n:Nat):A1 (-1) 1 (Bd (-1) ((n:Int)+1) 1)=(ivs (-1) (n+2)).map .int:=by
 rw[HK,show ((n:Int)+1 - -1)=((n+2:Nat):Int) by exact af (lin [n] [] (.f (.S (.A (.c V0) K1) Km1) (.c (.A V0 K2))) [] rfl) (lin [n] [] (.f (.c (.A V0 K2)) (.S (.A (.c V0) K1) Km1)) [] rfl),b7]
noncomputable abbrev arS'(x dx o a:bg)(G:Gr)(P:List Ah)(tl:Slot)(F:List (Ah×AV)):LS:=[.at x (.inst dx),.at dx (.attrs (FW (.list (AA G)) (.loc o 2))),.at o (.dict (tt P)),tl,.at a (.dict F)]
noncomputable abbrev arS(x dx o a:bg)(G:Gr)(P:List Ah)(tl:Slot)(F:List Ah):LS:=[.at x (.inst dx),.at dx (.attrs (FW (.list (AA G)) (.loc o 2))),.at o (.dict (tt P)),tl,.at a (.dict (tt F))]
inductive ArJ(x dx o a:bg)(G:Gr)(w:Nat)(P:List Ah)(tl:Slot)(d r:List Int):M->LS->Prop
 |mk (hd:d++r=ivs (-1) (G.length+2))(u v:Option AV):ArJ x dx o a G w P tl d r [a0 (.loc x 0),a0 (.loc a 4),u,v] (arS x dx o a G P tl (Ci P (box (ivs (-1) (w+2)) d)))
inductive ArI(x dx o a:bg)(G:Gr)(w:Nat)(P:List Ah)(tl:Slot)(y:Int)(B:List Ah)(d r:List Int):M->LS->Prop
 |mk (hd:d++r=ivs (-1) (w+2))(v:Option AV):ArI x dx o a G w P tl y B d r [a0 (.loc x 0),a0 (.loc a 4),a0 (.int y),v] (arS x dx o a G P tl (Ci P (B++d.map λx=>(x,y))))
theorem H1{a:Int}{n:Nat}{d r:List Int}{x:Int}(h:d++x::r=ivs a n):d.length<n:=by
 have:=congrArg bW h
 rw[ar,aL,AB]at this;exact lin [d.length,r.length,n] [] (.c V0 V2) [.d (.A V0 (.A V1 K1)) V2] rfl this
theorem HA{ex:List Nat}{X:XL}{x dx o a:bg}{G:Gr}{w:Nat}{P:List Ah}{tl:Slot}{y z:Int}{B:List Ah}{d r:List Int}{m:M}{V:LS}{C:M->LS->Prop}{KK:KS}(hB:B.length+w+2<=1000)(j:ArI x dx o a G w P tl y B d (z::r) m V)(T:∀Ar Ab,ArI x dx o a G w P tl y B (d++[z]) r Ar Ab->C Ar Ab) :
  wpSs ⟨a6,ex,[],[],[]⟩ [.ite (.cmp .NotIn (.tup [.v 3,.v 2]) (.attr (.v 0) 12)) [.setitem (.v 1) (.tup [.v 3,.v 2]) (.bool a6)] []] X (Ev m 3 (.int z)) V (Fu aa V C KK):=by
 induction j using ArI.casesOn with
 |mk u v =>
  have U:=H1 u;refine⟨⟨rfl,rfl,rfl,rfl⟩,rfl,_,⟨rfl,Cu P (z,y)⟩,?_⟩;have e:B++(d++[z]).map (λx=>(x,y))=(B++d.map λx=>(x,y))++[(z,y)]:=by rw[a9,<- aH];rfl
  have Y:∀F,F=Ci P (B++(d++[z]).map λx=>(x,y))->C [a0 (.loc x 0),a0 (.loc a 4),a0 (.int y),a0 (.int z)] (arS x dx o a G P tl F):=λF O=>by
   subst O;exact T _ _ (.mk (by rwa [aH]) _)
  rw[e]at Y
  by_cases hz:(z,y)∈P
  .exact ifF (by rw[decide_eq_true hz];rfl) (Y _ (freeF_in hz).symm)
  .refine ifT (by rw[decide_eq_false hz];rfl) ⟨rfl,Aq ?_,?_⟩
   .rw[BW]
    refine am Gm ?_;rw[ar,aj];clear Y e u;exact lin [B.length,w,d.length] [] (.b (.A V0 V2) AD) [.b (.A (.A V0 V1) K2) AD,.c V2 (.A V1 K2)] rfl hB U
   .have:=Y _ (Ll hz).symm
    show C _ (arS' x dx o a G P tl (Bs (tt (Ci P (B++d.map λx=>(x,y)))) (z,y) (.bool a6)));rw[Ir D4];exact this
theorem Ma{ex:List Nat}:Mh ⟨a6,ex,[],[],[]⟩ GI .new 3 1 LC:=by
 refine⟨λavs V K X h=>?_,λZ Z h=>by exact nS h⟩
 obtain⟨x,dx,o,G,w,P,tl,rfl,rfl,g,hK⟩:=h;have h6:=g.h6;have w6:=g.w6;refine X1pp g.first λr0 U T=>⟨rfl,λa=>⟨⟨rfl,rfl,rfl,rfl⟩,rfl,Aq (CL g),⟨by rw[Ig];exact F3 h6,AS (g:=.int) ((congrArg (λn:Nat=>A1 (-1) 1 (Bd (-1) ((n:Int)+1) 1)) (Ig G)).trans (J7 _)) (ArJ x dx o a G w P tl) ?_ ?_ (d:=[]) (.mk rfl _ _)⟩⟩⟩
 .intro d m V j
  induction j using ArJ.casesOn with
  |mk O u v =>
   rw[aF]at O;subst O;exact⟨rfl,hK⟩
 .intro d y r m V j C Y
  induction j using ArJ.casesOn with
  |mk O u v =>
   have hl:=H1 O;refine⟨⟨rfl,rfl,rfl,rfl⟩,rfl,_,gridA_at U,rowS_big T w6,⟨by rw[A4,T];exact F3 w6,?_⟩⟩
   have hB:(box (ivs (-1) (w+2)) d).length+w+2<=1000:=by
    rw[Hy,AB]
    have:d.length * (w+2)<=8 * 8:=dZ (by clear O U T;exact lin [bW G,d.length] [] (.b V1 K8) [.b V0 K6,.c V1 (.A V0 K2)] rfl h6 hl) (by clear O U T;exact lin [w] [] (.b (.A V0 K2) K8) [.b V0 K6] rfl w6)
    clear O U T;exact lin [w,d.length * (w+2)] [] (.b (.A (.A V1 V0) K2) AD) [.b V0 K6,.b V1 (.M 8 K8)] rfl w6 this
   refine AS (g:=.int) ((congrArg (λn:Nat=>A1 (-1) 1 (Bd (-1) ((n:Int)+1) 1)) ((A4 r0).trans T)).trans (J7 _)) (ArI x dx o a G w P tl y (box (ivs (-1) (w+2)) d)) ?_ ?_ (d:=[]) ?_
   .intro e m V j
    induction j using ArI.casesOn with
    |mk he v =>
     rw[aF]at he;subst he;rw[<- box_snoc];exact Y _ _ (.mk (by rwa [aH]) _ _)
   .exact λe z s m V j C Y=>HA hB j Y
   .have:=ArI.mk (x:=x) (dx:=dx) (o:=o) (a:=a) (G:=G) (w:=w) (P:=P) (tl:=tl) (y:=y) (B:=box (ivs (-1) (w+2)) d) (d:=[]) (r:=ivs (-1) (w+2)) rfl v
    rw[iJ,aF]at this;exact this
theorem Lg(b:Bool):EqP (.str ⟨#[sgn b]⟩) (.str "#") b:=by
 cases b
 .exact .py ⟨_,_,rfl,rfl,by decide +kernel,by decide +kernel,by decide +kernel⟩
 .exact .py ⟨_,_,rfl,rfl,by decide +kernel,by decide +kernel,by decide +kernel⟩
theorem fset_fl(t o:AV):JB (JB [] (fld 11) t) (fld 12) o=FW t o:=by
 show (if (("texts":Str) == ("own":Str))=a6 then _ else _)=_;rw[if_neg (by decide +kernel)]
 rfl
def Mp(P:List Ah)(a:Ah):Prop:=∀k∈P,Mj P a k
theorem Mp.len{P fs:List Ah}{a:Ah}(h:Mp P a)(ha:a∈P)(n:P.Nodup)(c:Comp P a fs):fs.length=P.length :=
 same_length c.1 n λk=>(c.2 k).trans ⟨λq=>q.mem.elim (λe=>e▸ha) id,h k⟩
theorem J5{y:Int}:∀{r:List Bool}{x:Int},(Ck y x r).Pairwise lt2
 |[],_=>.nil
 |b::r,x=>by
  have u:=J5 (y:=y) (r:=r) (x:=x+1)
  cases b
  .exact u
  .exact fe.mpr ⟨λk B=>(Bo (rowC_mem.mp B) λY z Z=>(.inr ⟨Y.symm,lin [] [k.fst,x] (.g V1 V0) [.f K0 (.S V0 (.A V1 K1))] rfl z⟩)),u⟩
theorem GD:∀{G:Gr}{y:Int},(BH y G).Pairwise lt2
 |[],_=>.nil
 |r::G,y=>by
  exact List.pairwise_append.mpr ⟨J5,GD,λa ha b Y=>(An (rowC_mem.mp ha) λO Z=>(An (cellsF_mem.mp Y) λz Z=>(.inl (by dsimp only at z;exact lin [] [a.snd,y,b.snd] (.g V0 V2) [.h V0 V1,.f K0 (.S V2 (.A V1 K1))] rfl O z))))⟩
theorem Ix(G:Gr):(Ae G).Pairwise lt2:=GD
structure Flo(G:Gr)(w:Nat):Prop where
 g:Mr G w
 ne:∃a P',Ae G=a::P'/\Mp (Ae G) a
 out:Mp (AL (Ae G) w G.length) (-1,-1)
theorem Flo.some{G:Gr}{w:Nat}(f:Flo G w):(G.any λr=>r.any id)=a6:=by
 refine X2pp f.ne λa U e Z=>?_;have ha:a∈Ae G:=by rw[e];exact .head _
 refine An (cellsOf_mem.mp ha) λZ u=>X1ppp u λr Y Z z=>?_;rw[dW];exact⟨r,ah Y,dW.mpr ⟨a6,ah z,rfl⟩⟩
inductive QB(avs:List AV)(V:LS)(K:KR):Prop
 |mk (a:_)(G:Gr)(w:_)(c0:avs=[.loc a 0])(c1:V=[.at a (.list (AA G))])(c2:Flo G w)(c3:K ⟨[],.val (AJ (.list (AA G)) (Ae G))⟩ [.at a (.list (AA G))]):QB avs V K
noncomputable def fFloor:FS:=specF λavs V K X=>QB avs V K
noncomputable abbrev tInit:Tab:=⟨a6,[28,19,20,21],[(36,fArows),(35,Lw)],[(13,LC)],[]⟩
noncomputable abbrev inS(x dx o a:bg)(G:Gr)(P:List (Ah×AV)):LS:=[.at x (.inst dx),.at dx (.attrs (FW (.list (AA G)) (.loc o 2))),.at o (.dict P),.at a (.list (AA G))]
inductive InJ(x dx o a:bg)(G:Gr)(d r:Gr):M->LS->Prop
 |mk (hd:d++r=G)(u1 u2 u3 u4:Option AV):InJ x dx o a G d r [a0 (.loc x 0),a0 (.loc a 3),u1,u2,u3,u4,aa] (inS x dx o a G (tt (Ae d)))
inductive InI(x dx o a:bg)(G d:Gr)(r:List Bool)(e t:List Bool):M->LS->Prop
 |mk (he:e++t=r)(u1 u2:Option AV):InI x dx o a G d r e t [a0 (.loc x 0),a0 (.loc a 3),a0 (.int d.length),a0 (.str (Ca r)),u1,u2,aa] (inS x dx o a G (tt (Ae d++Ck d.length 0 e)))
theorem Cd{α:Type}{d r G:List α}{x:α}(h:d++x::r=G):d.length<G.length:=by
 rw[<- h,ar,aL];exact lin [d.length,r.length] [] (.c V0 (.A V0 (.A V1 K1))) [] rfl
theorem Lb{X:XL}{x dx o a:bg}{G d:Gr}{w:Nat}{r e t:List Bool}{b:Bool}{m:M}{V:LS}{C:M->LS->Prop}{KK:KS}(O:(Ae d).length<=36)(T:r.length<=6)(j:InI x dx o a G d r e (b::t) m V)(B:∀Ar Ab,InI x dx o a G d r (e++[b]) t Ar Ab->C Ar Ab) :
  wpSs tInit [.ite (.cmp .Eq (.v 5) (.str "#")) [.setitem (.attr (.v 0) 12) (.tup [.v 4,.v 2]) (.bool a6)] []] X (Ev (Ev m 4 (.int e.length)) 5 (.str ⟨#[sgn b]⟩)) V (Fu aa V C KK):=by
 induction j using InI.casesOn with
 |mk u u1 u2 =>
  have z:=Cd u;have Y:∀q,q=tt (Ae d++Ck d.length 0 (e++[b]))->C [a0 (.loc x 0),a0 (.loc a 3),a0 (.int d.length),a0 (.str (Ca r)),a0 (.int e.length),a0 (.str ⟨#[sgn b]⟩),aa] (inS x dx o a G q):=λq hq=>by
   subst hq;exact B _ _ (.mk (by rwa [aH]) _ _)
  rw[F5]at Y;refine⟨b,Lg b,?_⟩
  cases b
  .rw[show Ck (d.length:Int) (0+e.length) [a7]=[] from rfl,aF]at Y
   exact Y _ rfl
  .refine⟨⟨rfl,rfl,rfl,rfl⟩,rfl,rfl,Aq ?_,Y _ ?_⟩
   .rw[BW,ar]
    have U:=Fi (y:=d.length) (r:=e) (x:=0);clear Y u;exact lin [(Ae d).length,r.length,e.length,(Ck (↑(bW d)) 0 e).length] [] (.b (.A V0 V3) AD) [.b V0 K36,.b V1 K6,.c V2 V1,.b V3 V2] rfl O T z U
   .rw[show Ck (d.length:Int) (0+e.length) [a6]=[(0+(e.length:Int),(d.length:Int))] from rfl,cJ,<- aH]
    exact Hq Jl
theorem init_end{K:KR}{X:XL}{x dx o a:bg}{G:Gr}{w:Nat}{u1 u2 B U:Option AV}(f:Flo G w)(hK:K ⟨[],.val (AJ (.list (AA G)) (Ae G))⟩ [.at a (.list (AA G))]) :
  wpSs tInit (c_Finit.body.drop 4) X [a0 (.loc x 0),a0 (.loc a 3),u1,u2,B,U,aa] (inS x dx o a G (tt (Ae G))) (λfl Z τ=>flV fl=.none/\madeW 1 x dx τ K):=by
 refine X2pp f.ne λu P' z hh=>?_;have g:=f.g;have d:(Ae G).length<=1000:=am g.cells (by decide)
 have O:(AL (Ae G) w G.length).length<=1000:=am (Jy g) (by decide)
 have h0:((tt (Ae G)).map λp=>sp p.1)[0]?=a0 (sp u):=by rw[Ff,z];rfl
 have tl:∀{P:List Ah},P.length<=1000->(tt P).length<=big:=λh=>Aq (by rwa [BW])
 refine⟨⟨rfl,rfl,rfl,rfl⟩,rfl,rfl,tl d,sp u,h0,⟨rfl,rfl,rfl,rfl⟩,rfl,u,Ae G,d,.inr ⟨o,rfl,rfl,λfs hc=>?_⟩⟩;have y:=hh.len (by rw[z];exact .head _) (BC (Ix G)) hc
 refine⟨tl (y▸d),⟨rfl,rfl,rfl,rfl⟩,rfl,rfl,tl d,ifF (by rw[BW,BW,y,beq_self_eq_true];rfl) ⟨⟨rfl,rfl,rfl,rfl⟩,⟨rfl,rfl,rfl,rfl⟩,x,dx,o,G,w,Ae G,_,rfl,rfl,g,⟨(-1,-1),AL (Ae G) w G.length,O,.inl ⟨rfl,rfl,λfs2 T=>?_⟩⟩⟩⟩
 have m1:((-1,-1):Ah)∈AL (Ae G) w G.length:=around_mem.mpr ⟨⟨⟨by decide,dG (by decide) (d3 _)⟩,by decide,dG (by decide) (d3 _)⟩,λq=>by have:=(g.in q).1;exact absurd this (by decide)⟩
 have Y:=f.out.len m1 D4 T;exact⟨tl (Y▸O),tl O,ifF (by rw[BW,BW,Y,beq_self_eq_true];rfl) ⟨rfl,⟨rfl,rfl,rfl,rfl,rfl,rfl⟩,hK⟩⟩
noncomputable def locHd?(l:List AV):Option bg:=match l with
 |[]=>aa
 |x::_=>(match x with
  |.loc a _=>a0 a
  |_=>aa)
theorem J8{y:List AV}{a:bg}(h:Bk y 0=[.loc a 0]):Bk y 3=[.loc a 3]:=by
 cases y with
 |nil=>exact(Al rfl (congrArg locHd? h)).elim
 |cons v r =>
  cases v with
  |loc b i =>
   obtain rfl:b=a:=ae (congrArg locHd? h)
   cases r with
   |nil=>rfl
   |cons v r =>
    have T:=(e7 h).2
    cases v<;>exact(List.cons_ne_nil _ _ T).elim
  |_=>exact(Al rfl (congrArg locHd? h)).elim
theorem Ju{G d r:Gr}{w:Nat}(g:Mr G w)(z:d++r=G):(Ae d).length<=36:=by
 have U:=Cf (w:=w) (G:=d) (y:=0) λq hq=>g.len q (by rw[<- z];exact bA _ hq)
 have Y:d.length * w<=6 * 6:=dZ (am (by rw[<- z,ar];exact dv _ _) g.h6) g.w6
 exact am U Y
theorem init_ok(z:List AV)(V:LS)(K:KR)(X:XL)(h:fFloor.spec (Bk z 0) V K X):makeW tInit c_Finit 5 0 (Bk z 3) V K X:=by
 obtain⟨a,G,w,ha,rfl,f,hK⟩:=h;have g:=f.g;rw[J8 ha];refine⟨rfl,λx dx=>⟨a,G,w,rfl,rfl,g,f.some,⟨rfl,Aq (CL g),⟨rfl,rfl⟩,bt rfl,λo=>⟨⟨rfl,rfl⟩,bt rfl,rfl,?_⟩⟩⟩⟩;rw[LH];refine Hl (r:=G) (g:=λr=>.str (Ca r)) (InJ x dx o a G) ?_ ?_ (d:=[]) ?_
 .intro d m V j
  induction j using InJ.casesOn with
  |mk y B U u O =>
   rw[aF]at y;clear g;subst y;exact init_end f hK
 .intro d r s m V j C Y
  induction j using InJ.casesOn with
  |mk y B U u O =>
   have T:r.length<=6:=by rw[g.len r (by rw[<- y];exact bF _ (.head _))];exact g.w6
   refine⟨EH r,?_⟩;rw[LH,DP];refine Hl (r:=r) (g:=λb=>.str ⟨#[sgn b]⟩) (InI x dx o a G d r) ?_ ?_ (d:=[]) ?_
   .intro e m V j
    induction j using InI.casesOn with
    |mk he B U =>
     rw[aF]at he;clear T;subst he
     have:=InJ.mk (x:=x) (dx:=dx) (o:=o) (a:=a) (G:=G) (d:=d++[e]) (r:=s) (by rwa [aH]) (a0 (.int d.length)) (a0 (.str (Ca e))) B U
     unfold Ae at this;rw[Cv,cJ]at this;exact⟨rfl,Y _ _ this⟩
   .exact λe b t m V j C Y=>Lb (w:=w) (Ju g y) T j Y
   .have:=InI.mk (x:=x) (dx:=dx) (o:=o) (a:=a) (G:=G) (d:=d) (r:=r) (e:=[]) (t:=r) rfl u O
    rw[show Ck (d.length:Int) 0 []=[] from rfl,aF]at this
    exact this
 .have:=InJ.mk (x:=x) (dx:=dx) (o:=o) (a:=a) (G:=G) (d:=[]) (r:=G) rfl aa aa aa aa
  have e:=fset_fl (.list (AA G)) (.loc o 2);rw[inS,<- e]at this;exact this
end
section
theorem ivs_at:∀{d:List Int}{x a:Int}{r:List Int}{n:Nat},d++x::r=ivs a n->x=a+d.length/\d.length<n
 |[],x,a,r,0,h=>by cases h
 |[],x,a,r,n+1,h=>by
  exact X0lp x (e7 h) λZ=>⟨(bB _).symm,iG _⟩
 |z::d,x,a,r,0,h=>by cases h
 |z::d,x,a,r,n+1,h=>by
  refine An (e7 h) λu h=>?_;subst u;refine An (ivs_at h) λY T=>?_;rw[aL];exact⟨af (lin [d.length] [x,z] (.f V0 (.A V1 (.c (.A V0 K1)))) [.h V0 (.A (.A V1 K1) (.c V0))] rfl Y) (lin [d.length] [x,z] (.f (.A V1 (.c (.A V0 K1))) V0) [.H (-1) V0 (.A (.A V1 K1) (.c V0))] rfl Y),lin [d.length,n] [] (.c (.A V0 K1) (.A V1 K1)) [.c V0 V1] rfl T⟩
theorem Cs:∀{r:List Bool}{x:Int},Ck y x r=((ivs x r.length).filter λz=>r.getD (z - x).toNat a7).map λz=>(z,y)
 |[],_=>rfl
 |b::r,x=>by
  have Y:=Cs (y:=y) (r:=r) (x:=x+1);have e:((ivs (x+1) r.length).filter λz=>(b::r).getD (z - x).toNat a7)=(ivs (x+1) r.length).filter λz=>r.getD (z - (x+1)).toNat a7:=by
   apply List.filter_congr;intro z hz;rw[ivs_mem]at hz;rw[show (z - x).toNat=(z - (x+1)).toNat+1 by exact aq (lin [(z - (x+1)).toNat,(z - x).toNat] [z,x] (.b V1 (.A V0 K1)) [.f (.S V0 (.A V1 K1)) (.c V0),.h (.c V1) (.S V0 V1)] rfl (aI (z - (x+1))) (an (lin [] [x,z] (.f K0 (.S V1 V0)) [.f (.A V0 K1) V1] rfl hz.1))) (lin [(z - x).toNat,(z - (x+1)).toNat] [z,x] (.b (.A V1 K1) V0) [.f (.S V0 V1) (.c V0),.h (.c V1) (.S V0 (.A V1 K1))] rfl (aI (z - x)) (an (lin [] [x,z] (.f K0 (.S V1 (.A V0 K1))) [.f (.A V0 K1) V1] rfl hz.1)))]
   rfl
  rw[aL,ivs,List.filter_cons];have U:(b::r).getD (x - x).toNat a7=b:=by rw[iM];rfl
  rw[U,e]
  cases b
  .rw[if_neg (by decide),<- Y];rfl
  .rw[if_pos rfl,b5,<- Y];rfl
theorem row_at(h:n<r.length):(Ca r).cps[n]?=a0 (sgn (r.getD n a7)):=by
 show ((r.map sgn).toArray)[n]?=_;rw[List.getElem?_toArray,aM,ax h,aD,ax h];rfl
theorem Lk{n:Nat}{r:List Bool}(h:G[n]?=a0 r):(AA G)[n]?=a0 (.str (Ca r)):=by
 unfold AA;rw[aM,h];rfl
theorem CK(G:Gr):(AA G).length=G.length:=by unfold AA;rw[aj]
theorem DO{n:Nat}(h:n<=6):cC 0 n 1=a6:=BZ (by decide) (by decide) (lin [n] [] (.f Bj (.c V0)) [] rfl) (lin [n] [] (.f (.c V0) Aw) [.b V0 K6] rfl h)
theorem rng_grid(G:Gr):A1 0 1 (Bd 0 (AA G).length 1)=(ivs 0 G.length).map .int:=by rw[CK,J6]
theorem Fj(r:List Bool):A1 0 1 (Bd 0 (Ca r).length 1)=(ivs 0 r.length).map .int:=by rw[A4,J6]
noncomputable def colG(G:Gr)(x:Int):List Bool:=G.map λr=>r.getD x.toNat a7
noncomputable def trG(G:Gr)(w:Nat):Gr:=(ivs 0 w).map (colG G)
theorem JS{x y:Str}(h:x.cps.toList=y.cps.toList):x=y:=by
 obtain⟨⟨a⟩⟩:=x;obtain⟨⟨b⟩⟩:=y
 have:a=b:=h
 rw[this]
theorem Ik(f:α->β):∀l:List α,(l.map λx=>[f x]).flatten=l.map f
 |[]=>rfl
 |x::l=>by rw[b5,List.flatten_cons,Ik f l];rfl
inductive QS(avs:List AV)(V:LS)(K:KR):Prop
 |mk (G:Gr)(w:_)(c0:avs=[.list (AA G)])(c1:V=[])(c2:Mr G w)(c3:K ⟨[],.val (.list (AA (trG G w)))⟩ []):QS avs V K
noncomputable def Lu:FS:=specF λavs V K X=>QS avs V K
theorem JM{ex:List Nat}:Mh ⟨a6,ex,[],[],[]⟩ Cm .val 2 0 Lu:=by
 refine .specF λavs V K X h=>?_;obtain⟨G,w,rfl,rfl,g,Y⟩:=h;have h1:=g.h1;have h6:=g.h6;have w6:=g.w6;have h0:∃y,G[0]?=a0 y/\y.length=w:=by
  cases G with|nil=>exact absurd h1 (by decide)|cons y G=>exact⟨y,rfl,g.len y (.head _)⟩
 obtain⟨y,e0,B⟩:=h0;refine⟨rfl,_,Lk e0,Aq (by rw[A4];exact lin [w,y.length] [] (.b V1 AD) [.b V0 K6,.d V1 V0] rfl w6 B),DO (by rw[A4];exact am (dJ B) w6),⟨Aq (by rw[Fj,aj,AB,B];exact am w6 (by decide)),AZ (g:=.int) (f:=λx=>.str (Ca (colG G x))) ((Fj y).trans (by rw[B])) (λx u C h=>?_) ?_⟩⟩
 .rw[ivs_mem]at u
  refine⟨Aq (by rw[CK];exact lin [bW G] [] (.b V0 AD) [.b V0 K6] rfl h6),AZ (r:=G) (g:=λr=>.str (Ca r)) (f:=λr=>.str ⟨#[sgn (r.getD x.toNat a7)]⟩) rfl (λr T C2 z=>?_) ?_⟩
  .have lr:=g.len r T
   exact⟨⟨lin [] [x] (.f K0 V0) [.f K0 V0] rfl u.1,lin [w] [x] (.g V0 Aw) [.b V0 K6,.g V0 (.A K0 (.c V0))] rfl w6 u.2⟩,_,row_at (lin [w,r.length,x.toNat] [x] (.c V2 V1) [.g V0 (.A K0 (.c V0)),.D (-1) V1 V0,.h (.c V2) V0] rfl u.2 lr (an (lin [] [x] (.f K0 V0) [.f K0 V0] rfl u.1))),z⟩
  .refine⟨G.map λr=>⟨#[sgn (r.getD x.toNat a7)]⟩,by rw[aV];rfl,?_,?_⟩
   .rw[aV,aj]
    have e1:(G.map ((λx:Str=>x.length) ∘ λr=>(⟨#[sgn (r.getD x.toNat a7)]⟩:Str))).sum=G.length:=by
     rw[show ((λx:Str=>x.length) ∘ λr:List Bool=>(⟨#[sgn (r.getD x.toNat a7)]⟩:Str))=λZ=>1 from rfl,List.map_const',List.sum_replicate_nat];exact aq (lin [bW G] [] (.b (.U V0 1) V0) [] rfl) (lin [bW G] [] (.b V0 (.U V0 1)) [] rfl)
    rw[e1,show ("":Str).length=0 from rfl];exact lin [bW G] [] (.b (.A V0 (.U V0 0)) Aw) [.b V0 K6] rfl h6
   .have e2:Txt.join "" (G.map λr=>(⟨#[sgn (r.getD x.toNat a7)]⟩:Str))=Ca (colG G x):=by
     apply JS;rw[Gl,aV];show (G.map λr=>[sgn (r.getD x.toNat a7)]).flatten=(colG G x).map sgn;unfold colG;rw[aV,Ik]
     rfl
    rw[e2];exact h
 .have O:(ivs 0 w).map (λx=>AV.str (Ca (colG G x)))=AA (trG G w):=by unfold AA trG;rw[aV];rfl
  rw[O];exact Y
end
section
noncomputable def AE(w:Nat)(p:Nat×Nat):List Bool:=aP p.1 a7++(aP p.2 a6++aP (w - p.1 - p.2) a7)
structure Mq(ev:Bool)(w:Nat)(L:List (Nat×Nat)):Prop where
 ok:∀p∈L,1<=p.2/\p.1+p.2<=w/\(ev=a6->p.2 % 2=0)
 ch:∀(i:Nat)(p q:Nat×Nat),L[i]?=a0 p->L[i+1]?=a0 q->p.1<q.1+q.2/\q.1<p.1+p.2
theorem Mq.nil{ev:Bool}{w:Nat}:Mq ev w []:=⟨λZ h=>(nM h),λZ Z Z h=>(nS h)⟩
theorem Mq.snoc{ev:Bool}{w:Nat}{L:List (Nat×Nat)}{q:Nat×Nat}(h:Mq ev w L)(hq:1<=q.2/\q.1+q.2<=w/\(ev=a6->q.2 % 2=0))(Y:∀p,L.getLast?=a0 p->p.1<q.1+q.2/\q.1<p.1+p.2):Mq ev w (L++[q]):=by
 refine⟨λp u=>?_,λi p r u y=>?_⟩
 .rcases aK.mp u with z|z
  .exact h.ok p z
  .rwa [ay.mp z]
 .rcases Nat.lt_trichotomy (i+1) L.length with z|z|z
  .rw[cq (by omega)]at u y
   exact h.ch i p r u y
  .rw[cq (by exact lin [i,L.length] [] (.c V0 V1) [.d (.A V0 K1) V1] rfl z)]at u
   rw[bo (by exact lin [i,L.length] [] (.b V1 (.A V0 K1)) [.D (-1) (.A V0 K1) V1] rfl z),show i+1 - L.length=0 by exact aq (lin [i,L.length,i+1 - L.length] [] (.b V2 K0) [.d (.A V0 K1) V1,.d (.A V2 V1) (.A V0 K1)] rfl z (ao (lin [i,L.length] [] (.b V1 (.A V0 K1)) [.D (-1) (.A V0 K1) V1] rfl z))) (lin [i+1 - L.length] [] (.b K0 V0) [] rfl)]at y
   obtain rfl:=ae y;refine Y p ?_;rw[List.getLast?_eq_getElem?,show L.length - 1=i by exact aq (lin [i,L.length,L.length - 1] [] (.b V2 V0) [.D (-1) (.A V0 K1) V1,.d (.A V2 K1) V1] rfl z (ao (lin [i,L.length] [] (.b K1 V1) [.d (.A V0 K1) V1] rfl z))) (lin [i,L.length,L.length - 1] [] (.b V0 V2) [.d (.A V0 K1) V1,.b V1 (.A K1 V2)] rfl z (au.mp (aB ((L.length) - (1)))))];exact u
  .rw[bo (by exact lin [L.length,i] [] (.b V0 (.A V1 K1)) [.c V0 (.A V1 K1)] rfl z),show i+1 - L.length=(i - L.length)+1 by exact aq (lin [i,L.length,i - L.length,i+1 - L.length] [] (.b V3 (.A V2 K1)) [.b V0 (.A V1 V2),.d (.A V3 V1) (.A V0 K1)] rfl (au.mp (aB ((i) - (L.length)))) (ao (lin [L.length,i] [] (.b V0 (.A V1 K1)) [.c V0 (.A V1 K1)] rfl z))) (lin [i,L.length,i+1 - L.length,i - L.length] [] (.b (.A V3 K1) V2) [.b (.A V0 K1) (.A V1 V2),.d (.A V3 V1) V0] rfl (au.mp (aB ((i+1) - (L.length)))) (ao (lin [L.length,i] [] (.b V0 V1) [.c V0 (.A V1 K1)] rfl z)))]at y
   exact nS y
theorem A5{a b:Int}(z:0<b):0<=a.fmod b/\a.fmod b<b:=⟨Int.fmod_nonneg_of_pos _ z,Int.fmod_lt_of_pos _ z⟩
theorem s_hash:("#":Str)=⟨#[35]⟩:=by decide +kernel
theorem s_dot:(".":Str)=⟨#[46]⟩:=by decide +kernel
theorem KA(c:Nat)(n:Int):(d6 ⟨#[c]⟩ n).length=n.toNat:=by
 have:(d6 ⟨#[c]⟩ n).cps.toList.length=(d6 ⟨#[c]⟩ n).length:=gx
 rw[<- this,Fr,bR]
theorem IQ(w b s:Nat)(h:b+s<=w):d6 "." b++d6 "#" s++d6 "." ((w:Int) - b - s)=Ca (AE w (b,s)):=by
 apply JS;rw[s_hash,s_dot,E8,E8,Fr,Fr,Fr];show _=(AE w (b,s)).map sgn;unfold AE;rw[a9,a9,gS,gS,gS,b7,b7,show ((w:Int) - b - s).toNat=w - b - s by rw[Int.sub_sub,<- Int.natCast_add,Int.toNat_sub,Nat.sub_sub],aH]
 rfl
theorem IF{T:Bool}{mu:Option Nat}{x y z:Int}{V:LS}{K:KV}(e:x+y=z)(h:K (.int z) V):binW T mu .Add (.int x) (.int y) V K:=by subst e;exact h
theorem pick_lo{w z B hi m f:Int}(Y:1<=z)(U:z<=w)(u:B<=hi)(O:hi<=w - 1)(T:m=max 0 (B - z+1))(h0:0<=hi):0<=m/\B<=m+z - 1/\m<=w - z/\m<=hi:=by exact⟨lin [] [m,max 0 (B - z+1)] (.f K0 V0) [.H (-1) V0 V1,.f K0 V1] rfl T (Int.le_max_left (0) (B - z+1)),⟨lin [] [m,max 0 (B - z+1),B,z] (.f V2 (.S (.A V0 V3) K1)) [.H (-1) V0 V1,.f (.A (.S V2 V3) K1) V1] rfl T (dw (0) (B - z+1)),⟨(Ct (0) (B - z+1)).elim (λy=>lin [] [z,w,m,max 0 (B - z+1)] (.f V2 (.S V1 V0)) [.f V0 V1,.h V2 V3,.h V3 K0] rfl U T y) (λy=>lin [] [B,hi,w,m,max 0 (B - z+1),z] (.f V3 (.S V2 V5)) [.f V0 V1,.f V1 (.S V2 K1),.h V3 V4,.h V4 (.A (.S V0 V5) K1)] rfl u O T y),(Ct (0) (B - z+1)).elim (λy=>lin [] [m,max 0 (B - z+1),hi] (.f V0 V2) [.h V0 V1,.f K0 V2,.h V1 K0] rfl T h0 y) (λy=>lin [] [z,B,hi,m,max 0 (B - z+1)] (.f V3 V2) [.f K1 V0,.f V1 V2,.h V3 V4,.h V4 (.A (.S V1 V0) K1)] rfl Y u T y)⟩⟩⟩
theorem IS{w sz:Nat}{z hi N:Int}(s1:1<=sz)(s2:sz<=w)(h1:0<=z)(h2:z<=hi)(h3:hi<=(w:Int) - 1) :
  ∃U:Nat,min ((w:Int) - sz) hi - max 0 (z - sz+1)+1≠0/\max 0 (z - sz+1)+N.fmod (min ((w:Int) - sz) hi - max 0 (z - sz+1)+1)=U/\U+sz<=w/\(U:Int)<=hi/\z<U+sz:=by
 refine B4 (pick_lo (f:=0) (d4.mpr s1) (d4.mpr s2) h2 h3 rfl (dG h1 h2)) λy T q3 q4=>?_;have B:max 0 (z - sz+1)<=min ((w:Int) - sz) hi:=Int.le_min.mpr ⟨q3,q4⟩;have Y:min ((w:Int) - sz) hi<=(w:Int) - sz:=Int.min_le_left _ _;have d:min ((w:Int) - sz) hi<=hi:=Int.min_le_right _ _;generalize max 0 (z - sz+1)=m at *;generalize min ((w:Int) - sz) hi=u at *;clear q3 q4 h1 h2 h3 s1 s2;have O:=A5 (a:=N) (b:=u - m+1) (by clear y T Y d;exact lin [] [m,u] (.g K0 (.A (.S V1 V0) K1)) [.f V0 V1] rfl B)
 generalize N.fmod (u - m+1)=r at O;refine X1p (cF (Int.add_nonneg y O.1)) λU e=>⟨U,by clear e O y T Y d;exact λz0=>lin [] [m,u] .no [.f V0 V1,.h (.A (.S V1 V0) K1) K0] rfl B z0,e,?_,?_,?_⟩
 .clear y T B d;exact lin [w,sz,U] [u,r,m] (.b (.A V2 V1) V0) [.f V0 (.S (.c V0) (.c V1)),.g V1 (.A (.S V0 V2) K1),.H (-1) (.A V2 V1) (.c V2)] rfl Y O.2 e
 .clear y T B Y;exact lin [U] [u,hi,r,m] (.f (.c V0) V1) [.f V0 V1,.g V2 (.A (.S V0 V3) K1),.H (-1) (.A V3 V2) (.c V0)] rfl d O.2 e
 .clear y B Y d;exact lin [sz,U] [z,m,r] (.g V0 (.A (.c V1) (.c V0))) [.f V0 (.S (.A V1 (.c V0)) K1),.f K0 V2,.h (.A V1 V2) (.c V1)] rfl T O.1 e
theorem IR{ev:Bool}{w:Nat}{N:Int}(u:2<=w):∃z:Nat,(1<=z/\z<=w/\(ev=a6->z % 2=0))/\((w:Int)≠0/\(w:Int).fdiv 2≠0)/\(match ev with
  |true=>2 * (1+N.fmod ((w:Int).fdiv 2))=(z:Int)
  |false=>1+N.fmod w=(z:Int)):=by
 have y:1<=(w:Int).fdiv 2/\2 * (w:Int).fdiv 2<=w:=by
  rw[Int.fdiv_eq_ediv_of_nonneg _ (by decide)];omega
 have ne:(w:Int)≠0/\(w:Int).fdiv 2≠0:=by omega
 cases ev
 .have hs:=A5 (a:=N) (b:=w) (lin [w] [] (.g K0 (.c V0)) [.b K2 V0] rfl u)
  obtain⟨z,hz⟩:=cF (show 0<=1+N.fmod w by clear y ne;exact lin [] [N.fmod ↑w] (.f K0 (.A K1 V0)) [.f K0 V0] rfl hs.1)
  refine⟨z,⟨?_,?_,λh=>(nF h)⟩,ne,hz⟩<;>(clear y ne;omega)
 .have hs:=A5 (a:=N) (b:=(w:Int).fdiv 2) (by omega)
  obtain⟨z,hz⟩:=cF (show 0<=1+N.fmod ((w:Int).fdiv 2) by clear y ne;omega)
  refine⟨2 * z,⟨?_,?_,λZ=>Nat.mul_mod_right _ _⟩,ne,?_⟩
  .clear y ne;omega
  .clear ne;omega
  .dsimp only;rw[hz];rfl
inductive QL(avs:List AV)(V:LS)(K:KR):Prop
 |mk (a:_)(b:_)(ev:_)(c0:avs=[.int a,.int b,.bool ev])(c1:V=[])(c2:∀w L,2<=w->w<=6->1<=L.length->L.length<=6->Mq ev w L->K ⟨[.list (AA (L.map (AE w)))],.new 0⟩ []):QL avs V K
noncomputable def Ly:FS:=specF λavs V K X=>QL avs V K
noncomputable abbrev rbM(a b:Int)(ev:Bool)(w:Nat)(f:bg)(lo hi:Int)(u7 u8 u9 u10 u11:Option AV):M:=[a0 (.int a),a0 (.int b),a0 (.bool ev),a0 (.int w),a0 (.loc f 4),a0 (.int lo),a0 (.int hi),u7,u8,u9,u10,u11]
noncomputable abbrev rbS(w:Nat)(f:bg)(L:List (Nat×Nat)):LS:=[.no,.no,.no,.no,.at f (.list (AA (L.map (AE w))))]
inductive RbJ(a b:Int)(ev:Bool)(w n:Nat)(f:bg)(d r:List Int):M->LS->Prop
 |mk (hn:d.length+r.length=n)(L:List (Nat×Nat))(lo hi:Int)(u7 u8 u9 u10 u11:Option AV)(hL:L.length=d.length)(st:Mq ev w L)(h1:0<=lo)(h2:lo<=hi)(h3:hi<=(w:Int) - 1)(hl:∀p,L.getLast?=a0 p->lo=p.1/\hi=p.1+p.2 - 1):RbJ a b ev w n f d r (rbM a b ev w f lo hi u7 u8 u9 u10 u11) (rbS w f L)
theorem rb_last{L:List (Nat×Nat)}{U z:Nat}{y hi:Int}(Y:∀p,L.getLast?=a0 p->y=p.1/\hi=p.1+p.2 - 1)(u:(U:Int)<=hi)(T:y<U+z)(p:Nat×Nat)(d:L.getLast?=a0 p):p.1<U+z/\U<p.1+p.2:=by
 refine An (Y p d) λB O=>?_;clear d Y
 constructor
 .clear O u;exact lin [U,z,p.fst] [y] (.c V2 (.A V0 V1)) [.g V0 (.A (.c V0) (.c V1)),.H (-1) V0 (.c V2)] rfl T B
 .clear B T;exact lin [U,p.fst,p.snd] [hi] (.c V0 (.A V1 V2)) [.f (.c V0) V0,.h V0 (.S (.A (.c V1) (.c V2)) K1)] rfl u O
theorem rb_step{ex:List Nat}{X:XL}{a b:Int}{ev:Bool}{w n:Nat}{f:bg}{lo hi y N:Int}{L:List (Nat×Nat)}{u9 u10 u11:Option AV}{sz:Nat}{KK:KS}(w6:w<=6)(d:L.length<=6)(T:1<=sz)(z:sz<=w)(h1:0<=lo)(h2:lo<=hi)(h3:hi<=(w:Int) - 1)
  (h:∀U:Nat,U+sz<=w->(U:Int)<=hi->lo<U+sz->∀u10 u11,KK .next (rbM a b ev w f U (U+sz - 1) (a0 (.int y)) (a0 (.int N)) (a0 (.int sz)) u10 u11) (rbS w f (L++[(U,sz)]))) :
  wpSs ⟨a6,ex,[(73,ES)],[],[]⟩ [.assign (.v 10) (.call (.g 14) [.int 0,.bin .Add (.bin .Sub (.v 5) (.v 9)) (.int 1)]),.assign (.v 11) (.bin .Add (.v 10) (.bin .Mod (.bin .FloorDiv (.v 8) (.int 30)) (.bin .Add (.bin .Sub (.call (.g 13) [.bin .Sub (.v 3) (.v 9),.v 6]) (.v 10)) (.int 1)))),.expr (.meth (.v 4) 0 [.bin .Add (.bin .Add (.bin .Mult (.str ".") (.v 11)) (.bin .Mult (.str "#") (.v 9))) (.bin .Mult (.str ".") (.bin .Sub (.bin .Sub (.v 3) (.v 11)) (.v 9)))]),.assign (.tup [.v 5,.v 6]) (.tup [.v 11,.bin .Sub (.bin .Add (.v 11) (.v 9)) (.int 1)])] X
   (rbM a b ev w f lo hi (a0 (.int y)) (a0 (.int N)) (a0 (.int sz)) u10 u11) (rbS w f L) KK:=by
 refine X1ppppp (IS (N:=N.fdiv 30) T z h1 h2 h3) λU ne e O B Y=>⟨ne,IF e ?_⟩;have bw:U<=6:=am (am (dv _ _) O) w6;have sw:sz<=6:=am z w6;have m0:∀n:Int,-100<=n->n<=100->MulOk "." n:=λn h1 h2=>mul_ok (by decide) h2 h1
 have l0:∀n:Int,(d6 "." n).length=n.toNat:=λn=>by rw[s_dot];exact KA _ _
 have l1:(d6 "#" sz).length=sz:=by rw[s_hash,KA,b7]
 clear ne e h1 h2 h3;have u:-100<=(w:Int) - U - sz/\(w:Int) - U - sz<=100:=by clear B Y T z d;exact⟨lin [U,sz,w] [] (.f Km100 (.S (.S (.c V2) (.c V0)) (.c V1))) [.b (.A V0 V1) V2] rfl O,lin [w,U,sz] [] (.f (.S (.S (.c V0) (.c V1)) (.c V2)) Et) [.b V0 K6] rfl w6⟩
 refine⟨rfl,m0 _ (by clear u O B Y T z d;exact lin [U] [] (.f Km100 (.c V0)) [] rfl) (by clear u O B Y T z d;exact lin [U] [] (.f (.c V0) Et) [.b V0 K6] rfl bw),mul_ok (by decide) (by clear u O B Y T z d;exact lin [sz] [] (.f (.c V0) Et) [.b V0 K6] rfl sw) (by clear u O B Y T z d;exact lin [sz] [] (.f Km100 (.c V0)) [] rfl),Aq ?_,m0 _ u.1 u.2,Aq ?_,rfl,Aq ?_,?_⟩
 .rw[l0,l1,b7];exact am (Nat.add_le_add bw sw) (by decide)
 .rw[app_len,l0,l1,l0,b7];clear B Y T z d;omega
 .rw[CK,aj];exact am d (by decide)
 .have:=h U O B Y (a0 (.int (max 0 (lo - sz+1)))) (a0 (.int U))
  have e:rbS w f (L++[(U,sz)])=[.no,.no,.no,.no,.at f (.list (AA (L.map (AE w))++[.str (d6 "." U++d6 "#" sz++d6 "." ((w:Int) - U - sz))]))]:=by
   rw[IQ w U sz O];show ([.no,.no,.no,.no,.at f (.list (AA ((L++[(U,sz)]).map (AE w))))]:LS)=_;rw[a9];unfold AA;rw[a9]
   rfl
  rw[e]at this;exact this
theorem rb_count{a:Int}:∃n:Nat,1+(a.fdiv 5).fmod 6=(n:Int)/\1<=n/\n<=6:=by
 have:=A5 (a:=a.fdiv 5) (b:=6) (by decide)
 obtain⟨n,O⟩:=cF (show 0<=1+(a.fdiv 5).fmod 6 by exact lin [] [(a.fdiv 5).fmod 6] (.f K0 (.A K1 V0)) [.f K0 V0] rfl this.1)
 exact⟨n,O,lin [n] [(a.fdiv 5).fmod 6] (.b K1 V0) [.f K0 V0,.h (.A K1 V0) (.c V0)] rfl this.1 O,lin [n] [(a.fdiv 5).fmod 6] (.b V0 K6) [.g V0 K6,.H (-1) (.A K1 V0) (.c V0)] rfl this.2 O⟩
theorem rb_width{a:Int}:∃n:Nat,2+a.fmod 5=(n:Int)/\2<=n/\n<=6:=by
 have:=A5 (a:=a) (b:=5) (by decide)
 obtain⟨n,O⟩:=cF (show 0<=2+a.fmod 5 by exact lin [] [a.fmod 5] (.f K0 (.A K2 V0)) [.f K0 V0] rfl this.1)
 exact⟨n,O,lin [n] [a.fmod 5] (.b K2 V0) [.f K0 V0,.h (.A K2 V0) (.c V0)] rfl this.1 O,lin [n] [a.fmod 5] (.b V0 K6) [.g V0 K5,.H (-1) (.A K2 V0) (.c V0)] rfl this.2 O⟩
theorem small_to{n:Nat}(h:n<=1000):cC 0 n 1=a6:=BZ (by decide) (by decide) (lin [n] [] (.f Bj (.c V0)) [] rfl) (lin [n] [] (.f (.c V0) Aw) [.b V0 AD] rfl h)
theorem J3{ex:List Nat}:Mh ⟨a6,ex,[(73,ES)],[],[]⟩ E2 .new 9 5 Ly:=by
 refine .specF λavs V K X h=>?_;obtain⟨a,b,ev,rfl,rfl,hK⟩:=h;refine X1ppp (rb_width (a:=a)) λw u Y w6=>X1ppp (rb_count (a:=a)) λn O n1 n6=>⟨rfl,λf=>⟨by rw[O];exact small_to (am n6 (by decide)),?_⟩⟩
 rw[O,u];refine AS (g:=.int) (J6 n) (RbJ a b ev w n f) ?_ ?_ (d:=[]) (.mk (by rw[AB];exact Nat.zero_add _) [] 0 ((w:Int) - 1) _ _ _ _ _ rfl Mq.nil (by decide) (by clear u O;exact lin [w] [] (.f K0 (.S (.c V0) K1)) [.b K2 V0] rfl Y) (fh _) λZ h=>(nS h))
 .intro d m V j
  induction j using RbJ.casesOn with
  |mk z L lo hi u7 u8 u9 u10 u11 T st _ _ _ _ =>
   rw[dg,Nat.add_zero,<- T]at z;clear O;subst z;exact⟨rfl,hK w L Y w6 n1 n6 st⟩
 .intro d y r m V j C hC
  induction j using RbJ.casesOn with
  |mk z L lo hi u7 u8 u9 u10 u11 T st h1 h2 h3 hl =>
   obtain⟨B,⟨s1,s2,s3⟩,⟨ne1,ne2⟩,hs⟩:=IR (ev:=ev) (N:=(b * 48271+7919 * y+11).fmod 2147483647) Y;have go:=rb_step (ex:=ex) (X:=λe τ=>X e (f9 ([]:LS).length τ)) (a:=a) (b:=b) (ev:=ev) (n:=n) (f:=f) (y:=y) (N:=(b * 48271+7919 * y+11).fmod 2147483647) (u9:=u9) (u10:=u10) (u11:=u11) (KK:=Fu aa (rbS w f L) C (kSeq (wpSs ⟨a6,ex,[(73,ES)],[],[]⟩ [.ret (.v 4)] λe τ=>X e (f9 ([]:LS).length τ)) λfl Z τ=>CA .new ([]:LS).length (flV fl) τ K)) w6 (by rw[T];clear O u;exact lin [n,d.length,(y::r).length] [] (.b V1 K6) [.b V0 K6,.d (.A V1 V2) V0] rfl n6 z) s1 s2 h1 h2 h3 λU b1 b2 b3 v10 v11=>hC _ _ (.mk (by rw[ar];clear O u;exact(Nat.add_assoc _ _ _).trans ((congrArg _ (Nat.add_comm _ _)).trans z)) (L++[(U,B)]) U (U+B - 1) _ _ _ _ _ (by rw[ar,ar,T];rfl) (st.snoc ⟨s1,b1,s3⟩ (rb_last hl b2 b3)) (lin [U] [] (.f K0 (.c V0)) [] rfl) (by clear O u;exact lin [B,U] [] (.f (.c V1) (.S (.A (.c V1) (.c V0)) K1)) [.b K1 V0] rfl s1) (by clear O u;exact lin [U,B,w] [] (.f (.S (.A (.c V0) (.c V1)) K1) (.S (.c V2) K1)) [.b (.A V0 V1) V2] rfl b1) λp hp=>by
     rw[List.getLast?_append,List.getLast?_singleton,Option.some_or]at hp;obtain rfl:=ae hp;exact⟨rfl,rfl⟩)
   cases ev
   .refine⟨ne1,IF hs go⟩
   .refine⟨ne2,⟨eU (by decide +kernel),?_⟩⟩
    rw[show (2:Int) * (1+((b * 48271+7919 * y+11).fmod 2147483647).fmod ((w:Int).fdiv 2))=_ from hs]
    exact go
end
section
theorem Mj.trans(h:Mj P a b)(g:Mj P b c):Mj P a c:=by
 induction g with|refl=>exact h|step _ n m y=>exact .step y n m
theorem Mj.symm(ha:a∈P)(h:Mj P a b):Mj P b a:=by
 induction h with
 |refl=>exact .refl
 |step g n m y =>
  exact Mj.trans (.step .refl (Bv n) (g.mem.elim (λe=>e▸ha) id)) y
theorem Mj.into(f:Sp->Sp)(B:∀c∈P,f c∈Q)(O:∀c k,c∈A8 k->f c∈A8 (f k))(h:Mj P a b):Mj Q (f a) (f b):=by
 induction h with|refl=>exact .refl|step _ n m y=>exact .step y (O _ _ n) (B _ m)
noncomputable def sw(k:Sp):Sp:=(k.2,k.1)
theorem GX(c k:Sp)(h:c∈A8 k):sw c∈A8 (sw k):=by
 cases DZ h with|u=>exact AI .l|l=>exact AI .u|r=>exact AI .d|d=>exact AI .r
theorem Do:(x - 1,y)∈A8 (x,y):=.tail _ (.head _)
theorem CG:(x,y - 1)∈A8 (x,y):=.head _
theorem near_d:(x,y+1)∈A8 (x,y):=.tail _ (.tail _ (.tail _ (.head _)))
theorem Hj:∀{n:Nat}{x:Int},(∀i:Nat,i<=n->(x - i,y)∈P)->Mj P (x,y) (x - n,y)
 |0,x,_=>by rw[show x - ((0:Nat):Int)=x by exact af (lin [] [x] (.f (.S V0 (.c K0)) V0) [] rfl) (lin [] [x] (.f V0 (.S V0 (.c K0))) [] rfl)];exact .refl
 |n+1,x,h=>by
  refine .step (Hj (n:=n) λi hi=>h i (lin [i,n] [] (.b V0 (.A V1 K1)) [.b V0 V1] rfl hi)) ?_ (h (n+1) (aB _));rw[show x - ((n+1:Nat):Int)=x - n - 1 by exact af (lin [n] [x] (.f (.S V0 (.c (.A V0 K1))) (.S (.S V0 (.c V0)) K1)) [] rfl) (lin [n] [x] (.f (.S (.S V0 (.c V0)) K1) (.S V0 (.c (.A V0 K1)))) [] rfl)]
  exact Do
theorem go_up:∀{n:Nat}{y:Int},(∀i:Nat,i<=n->(x,y - i)∈P)->Mj P (x,y) (x,y - n)
 |0,y,_=>by rw[show y - ((0:Nat):Int)=y by exact af (lin [] [y] (.f (.S V0 (.c K0)) V0) [] rfl) (lin [] [y] (.f V0 (.S V0 (.c K0))) [] rfl)];exact .refl
 |n+1,y,h=>by
  refine .step (go_up (n:=n) λi hi=>h i (lin [i,n] [] (.b V0 (.A V1 K1)) [.b V0 V1] rfl hi)) ?_ (h (n+1) (aB _));rw[show y - ((n+1:Nat):Int)=y - n - 1 by exact af (lin [n] [y] (.f (.S V0 (.c (.A V0 K1))) (.S (.S V0 (.c V0)) K1)) [] rfl) (lin [n] [y] (.f (.S (.S V0 (.c V0)) K1) (.S V0 (.c (.A V0 K1)))) [] rfl)]
  exact CG
theorem Gk(h:∀u,(z<=u/\u<=x)\/(x<=u/\u<=z)->(u,y)∈P):Mj P (x,y) (z,y):=by
 by_cases q:z<=x
 .have:=Hj (P:=P) (y:=y) (n:=(x - z).toNat) (x:=x) λi hi=>h _ (.inl (⟨lin [i,(x - z).toNat] [x,z] (.f V1 (.S V0 (.c V0))) [.b V0 V1,.h (.c V1) (.S V0 V1)] rfl hi (an (lin [] [z,x] (.f K0 (.S V1 V0)) [.f V0 V1] rfl q)),lin [i] [x] (.f (.S V0 (.c V0)) V0) [] rfl⟩))
  rw[show x - ((x - z).toNat:Int)=z by exact af (lin [(x - z).toNat] [x,z] (.f (.S V0 (.c V0)) V1) [.f (.S V0 V1) (.c V0)] rfl (aI (x - z))) (lin [(x - z).toNat] [x,z] (.f V1 (.S V0 (.c V0))) [.h (.c V0) (.S V0 V1)] rfl (an (lin [] [z,x] (.f K0 (.S V1 V0)) [.f V0 V1] rfl q)))]at this;exact this
 .have:=Hj (P:=P) (y:=y) (n:=(z - x).toNat) (x:=z) λi hi=>h _ (.inr (⟨lin [i,(z - x).toNat] [z,x] (.f V1 (.S V0 (.c V0))) [.b V0 V1,.h (.c V1) (.S V0 V1)] rfl hi (an (lin [] [z,x] (.f K0 (.S V0 V1)) [.k V0 V1] rfl q)),lin [i] [z] (.f (.S V0 (.c V0)) V0) [] rfl⟩))
  rw[show z - ((z - x).toNat:Int)=x by exact af (lin [(z - x).toNat] [z,x] (.f (.S V0 (.c V0)) V1) [.f (.S V0 V1) (.c V0)] rfl (aI (z - x))) (lin [(z - x).toNat] [z,x] (.f V1 (.S V0 (.c V0))) [.h (.c V0) (.S V0 V1)] rfl (an (lin [] [z,x] (.f K0 (.S V0 V1)) [.k V0 V1] rfl q)))]at this
  exact this.symm (h z (.inr (⟨lin [] [z,x] (.f V1 V0) [.k V0 V1] rfl q,lin [] [z] (.f V0 V0) [] rfl⟩)))
theorem go_col(hz:z<=y)(h:∀u,z<=u/\u<=y->(x,u)∈P):Mj P (x,y) (x,z):=by
 have:=go_up (P:=P) (x:=x) (n:=(y - z).toNat) (y:=y) λi hi=>h _ (⟨lin [i,(y - z).toNat] [y,z] (.f V1 (.S V0 (.c V0))) [.b V0 V1,.h (.c V1) (.S V0 V1)] rfl hi (an (lin [] [z,y] (.f K0 (.S V1 V0)) [.f V0 V1] rfl hz)),lin [i] [y] (.f (.S V0 (.c V0)) V0) [] rfl⟩)
 rw[show y - ((y - z).toNat:Int)=z by exact af (lin [(y - z).toNat] [y,z] (.f (.S V0 (.c V0)) V1) [.f (.S V0 V1) (.c V0)] rfl (aI (y - z))) (lin [(y - z).toNat] [y,z] (.f V1 (.S V0 (.c V0))) [.h (.c V0) (.S V0 V1)] rfl (an (lin [] [z,y] (.f K0 (.S V1 V0)) [.f V0 V1] rfl hz)))]at this;exact this
theorem Em(h:p.1+p.2<=w):bit (AE w p) x↔(p.1:Int)<=x/\x<p.1+p.2:=by
 unfold bit AE;have key:∀n:Nat,(aP p.1 a7++(aP p.2 a6++aP (w - p.1 - p.2) a7))[n]?=a0 a6↔p.1<=n/\n<p.1+p.2:=λn=>by
  rcases bO n p.1 with z|z
  .rw[cq (by rw[bR];exact z),dX,if_pos z]
   exact⟨λh=>(by cases h),λh=>(Nat.not_le_of_lt z h.1).elim⟩
  .rw[bo (by rw[bR];exact z),bR]
   rcases bO (n - p.1) p.2 with T|T
   .rw[cq (by rw[bR];exact T),dX,if_pos T]
    exact⟨λZ=>⟨z,lin [n - p.fst,p.snd,n,p.fst] [] (.c V2 (.A V3 V1)) [.c V0 V1,.b V2 (.A V3 V0)] rfl T (au.mp (aB ((n) - (p.fst))))⟩,λZ=>rfl⟩
   .rw[bo (by rw[bR];exact T),bR,dX]
    refine⟨λy=>?_,λy=>(de.mpr T (lin [n,p.fst,p.snd,n - p.fst] [] (.c V3 V2) [.c V0 (.A V1 V2),.d (.A V3 V1) V0] rfl y.2 (ao (lin [p.fst,n] [] (.b V0 V1) [.b V0 V1] rfl z)))).elim⟩
    by_cases q:n - p.1 - p.2<w - p.1 - p.2
    .rw[if_pos q]at y;cases y
    .rw[if_neg q]at y;exact nS y
 rw[key];exact⟨λO=>⟨lin [p.fst,x.toNat] [x] (.f (.c V0) V0) [.b V0 V1,.h (.c V1) V0] rfl O.2.1 (an (lin [] [x] (.f K0 V0) [.f K0 V0] rfl O.1)),lin [x.toNat,p.fst,p.snd] [x] (.g V0 (.A (.c V1) (.c V2))) [.c V0 (.A V1 V2),.f V0 (.c V0)] rfl O.2.2 (aI x)⟩,λO=>⟨lin [p.fst] [x] (.f K0 V0) [.f (.c V0) V0] rfl O.1,⟨lin [p.fst,x.toNat] [x] (.b V0 V1) [.f (.c V0) V0,.f V0 (.c V1)] rfl O.1 (aI x),lin [p.fst,p.snd,x.toNat] [x] (.c V2 (.A V0 V1)) [.g V0 (.A (.c V0) (.c V1)),.h (.c V2) V0] rfl O.2 (an (lin [p.fst] [x] (.f K0 V0) [.f (.c V0) V0] rfl O.1))⟩⟩⟩
theorem JR(h:p.1+p.2<=w):(AE w p).length=w:=by
 unfold AE;rw[ar,ar,bR,bR,bR];exact aq (lin [w - p.fst - p.snd,p.snd,w - p.fst,p.fst,w] [] (.b (.A V3 (.A V1 V0)) V4) [.d (.A V0 V1) V2,.d (.A V2 V3) V4] rfl (ao (lin [p.fst,p.snd,w,w - p.fst] [] (.b V1 V3) [.b (.A V0 V1) V2,.b V2 (.A V0 V3)] rfl h (au.mp (aB ((w) - (p.fst)))))) (ao (lin [p.fst,p.snd,w] [] (.b V0 V2) [.b (.A V0 V1) V2] rfl h))) (lin [w - p.fst,p.snd,w - p.fst - p.snd,w,p.fst] [] (.b V3 (.A V4 (.A V1 V2))) [.b V0 (.A V1 V2),.b V3 (.A V4 V0)] rfl (au.mp (aB ((w - p.fst) - (p.snd)))) (au.mp (aB ((w) - (p.fst)))))
theorem AP(st:Mq ev w L):k∈Ae (L.map (AE w))↔0<=k.2/\∃p,L[k.2.toNat]?=a0 p/\(p.1:Int)<=k.1/\k.1<p.1+p.2:=by
 rw[cellsOf_mem];unfold has
 constructor
 .refine λu=>An u λh T=>X1pp T λr Y z=>?_
  rw[aM]at Y
  cases hp:L[k.2.toNat]? with
  |none=>rw[hp]at Y;exact nS Y
  |some p =>
   rw[hp]at Y;obtain rfl:=ae Y;exact⟨h,p,rfl,(Em (st.ok p (ah hp)).2.1).mp z⟩
 .exact λu=>An u λh y=>X1pp y λp Y z=>⟨h,AE w p,by rw[aM,Y];rfl,(Em (st.ok p (ah Y)).2.1).mpr z⟩
theorem GY(st:Mq ev w L)(Y:1<=L.length)(O:L.length<=6)(u:2<=w)(y:w<=6):Mr (L.map (AE w)) w:=by
 exact⟨by rwa [aj],by rw[aj];exact O,lin [w] [] (.b K1 V0) [.b K2 V0] rfl u,y,λr z=>(X1pr r (aJ.mp z) λp d=>(JR (st.ok p d).2.1))⟩
def Me(P:List Sp):Prop:=∀a∈P,∀b∈P,Mj P a b
theorem EF(st:Mq ev w L)(ha:a∈Ae (L.map (AE w)))(d:b∈Ae (L.map (AE w)))(e:a.2=b.2):Mj (Ae (L.map (AE w))) a b:=by
 obtain⟨x,y⟩:=a;obtain⟨z,v⟩:=b;dsimp only at e;subst e;refine An ((AP st).mp ha) λB Z0=>X1pp Z0 λp T Y=>An ((AP st).mp d) λZ Z1=>X1pp Z1 λq k2 k3=>?_;dsimp only at T k2 Y k3;rw[T]at k2;obtain rfl:=ae k2;refine Gk λu U=>(AP st).mpr ⟨B,p,T,?_⟩;dsimp only;exact⟨U.elim (λO=>lin [p.fst] [z,u] (.f (.c V0) V1) [.f (.c V0) V0,.f V0 V1] rfl k3.1 O.1) (λO=>lin [p.fst] [x,u] (.f (.c V0) V1) [.f (.c V0) V0,.f V0 V1] rfl Y.1 O.1),U.elim (λO=>lin [p.fst,p.snd] [x,u] (.g V1 (.A (.c V0) (.c V1))) [.g V0 (.A (.c V0) (.c V1)),.f V1 V0] rfl Y.2 O.2) (λO=>lin [p.fst,p.snd] [z,u] (.g V1 (.A (.c V0) (.c V1))) [.g V0 (.A (.c V0) (.c V1)),.f V1 V0] rfl k3.2 O.2)⟩
theorem Cp(st:Mq ev w L):∀(n:Nat){a b:Sp},a∈Ae (L.map (AE w))->b∈Ae (L.map (AE w))->b.2=a.2+n->Mj (Ae (L.map (AE w))) a b
 |0,a,b,ha,hb,e=>EF st ha hb (af (lin [] [b.snd,a.snd] (.f V1 V0) [.H (-1) V0 (.A V1 (.c K0))] rfl e) (lin [] [b.snd,a.snd] (.f V0 V1) [.h V0 (.A V1 (.c K0))] rfl e))
 |n+1,a,b,ha,hb,e=>by
  refine An ((AP st).mp ha) λY Z0=>X1pp Z0 λp T O=>An ((AP st).mp hb) λk1 Z1=>X1pp Z1 λq k2 k3=>?_;have hl:a.2.toNat+1<L.length:=by
   rcases bO b.2.toNat L.length with z|z
   .exact lin [n,b.snd.toNat,L.length,a.snd.toNat] [b.snd,a.snd] (.c (.A V3 K1) V2) [.H (-1) V0 (.A V1 (.c (.A V0 K1))),.c V1 V2,.f V0 (.c V1),.h (.c V3) V1] rfl e z (aI b.snd) (an (lin [] [a.snd] (.f K0 V0) [.f K0 V0] rfl Y))
   .rw[aZ z]at k2;exact nS k2
  have y:L[a.2.toNat+1]?=a0 L[a.2.toNat+1]:=ax hl;generalize L[a.2.toNat+1]=r at y;have U:=st.ch _ p r T y;have u:=st.ok r (ah y);have pok:=st.ok p (ah T);obtain⟨x,hx⟩:∃x:Nat,x=max p.1 r.1:=⟨_,rfl⟩;have c1:((x:Int),a.2)∈Ae (L.map (AE w)):=(AP st).mpr ⟨Y,p,T,by dsimp only;exact⟨lin [x,max p.fst r.fst,p.fst] [] (.f (.c V2) (.c V0)) [.D (-1) V0 V1,.b V2 V1] rfl hx (Nat.le_max_left p.fst r.fst),(Ku p.fst r.fst).elim (λB=>lin [p.fst,p.snd,x,max p.fst r.fst] [a.fst] (.g (.c V2) (.A (.c V0) (.c V1))) [.f (.c V0) V0,.g V0 (.A (.c V0) (.c V1)),.d V2 V3,.d V3 V0] rfl O.1 O.2 hx B) (λB=>lin [r.fst,p.fst,p.snd,x,max p.fst r.fst] [] (.g (.c V3) (.A (.c V1) (.c V2))) [.c V0 (.A V1 V2),.d V3 V4,.d V4 V0] rfl U.2 hx B)⟩⟩
  have c2:((x:Int),a.2+1)∈Ae (L.map (AE w)):=(AP st).mpr ⟨by dsimp only;exact lin [] [a.snd] (.f K0 (.A V0 K1)) [.f K0 V0] rfl Y,r,by dsimp only;rw[show (a.2+1).toNat=a.2.toNat+1 by exact aq (lin [a.snd.toNat,(a.snd+1).toNat] [a.snd] (.b V1 (.A V0 K1)) [.f V0 (.c V0),.h (.c V1) (.A V0 K1)] rfl (aI a.snd) (an (lin [] [a.snd] (.f K0 (.A V0 K1)) [.f K0 V0] rfl Y))) (lin [(a.snd+1).toNat,a.snd.toNat] [a.snd] (.b (.A V1 K1) V0) [.f (.A V0 K1) (.c V0),.h (.c V1) V0] rfl (aI (a.snd+1)) (an (lin [] [a.snd] (.f K0 V0) [.f K0 V0] rfl Y)))];exact y,by dsimp only;exact⟨lin [x,max p.fst r.fst,r.fst] [] (.f (.c V2) (.c V0)) [.D (-1) V0 V1,.b V2 V1] rfl hx (Nat.le_max_right p.fst r.fst),(Ku p.fst r.fst).elim (λB=>lin [p.fst,r.fst,r.snd,x,max p.fst r.fst] [] (.g (.c V3) (.A (.c V1) (.c V2))) [.c V0 (.A V1 V2),.d V3 V4,.d V4 V0] rfl U.1 hx B) (λB=>lin [r.snd,x,max p.fst r.fst,r.fst] [] (.g (.c V1) (.A (.c V3) (.c V0))) [.b K1 V0,.d V1 V2,.d V2 V3] rfl u.1 hx B)⟩⟩
  exact Mj.trans (.step (EF st ha c1 rfl) near_d c2) (Cp st n c2 hb (by dsimp only;exact af (lin [n] [b.snd,a.snd] (.f V0 (.A (.A V1 K1) (.c V0))) [.h V0 (.A V1 (.c (.A V0 K1)))] rfl e) (lin [n] [b.snd,a.snd] (.f (.A (.A V1 K1) (.c V0)) V0) [.H (-1) V0 (.A V1 (.c (.A V0 K1)))] rfl e)))
theorem Cx(st:Mq ev w L):Me (Ae (L.map (AE w))):=by
 intro a ha b z
 by_cases h:a.2<=b.2
 .exact Cp st (b.2 - a.2).toNat ha z (af (lin [(b.snd - a.snd).toNat] [b.snd,a.snd] (.f V0 (.A V1 (.c V0))) [.f (.S V0 V1) (.c V0)] rfl (aI (b.snd - a.snd))) (lin [(b.snd - a.snd).toNat] [b.snd,a.snd] (.f (.A V1 (.c V0)) V0) [.h (.c V0) (.S V0 V1)] rfl (an (lin [] [a.snd,b.snd] (.f K0 (.S V1 V0)) [.f V0 V1] rfl h))))
 .exact(Cp st (a.2 - b.2).toNat z ha (af (lin [(a.snd - b.snd).toNat] [a.snd,b.snd] (.f V0 (.A V1 (.c V0))) [.f (.S V0 V1) (.c V0)] rfl (aI (a.snd - b.snd))) (lin [(a.snd - b.snd).toNat] [a.snd,b.snd] (.f (.A V1 (.c V0)) V0) [.h (.c V0) (.S V0 V1)] rfl (an (lin [] [a.snd,b.snd] (.f K0 (.S V0 V1)) [.k V0 V1] rfl h))))).symm z
theorem EG(st:Mq ev w L)(hk:k∈AL (Ae (L.map (AE w))) w L.length):Mj (AL (Ae (L.map (AE w))) w L.length) k (-1,-1):=by
 obtain⟨x,y⟩:=k;obtain⟨⟨⟨x1,x2⟩,y1,y2⟩,hn⟩:=around_mem.mp hk;dsimp only at x1 x2 y1 y2;have out:∀u v:Int,-1<=u->u<=w->-1<=v->v<=L.length->(u<0\/(w:Int)<=u\/v<0\/(L.length:Int)<=v)->(u,v)∈AL (Ae (L.map (AE w))) w L.length:=λu v a b c d e=>by
  refine around_mem.mpr ⟨⟨⟨a,b⟩,c,d⟩,λq=>(An ((AP st).mp q) λq1 Z0=>(X1pp Z0 λp q2 q3=>?_))⟩;dsimp only at q1 q2 q3;have pok:=st.ok p (ah q2)
  have:v.toNat<L.length:=by
   rcases bO v.toNat L.length with z|z
   .exact z
   .rw[aZ z]at q2;exact nS q2
  exact e.elim (λU=>lin [p.fst] [u] .no [.f (.c V0) V0,.g V0 K0] rfl q3.1 U) (λU=>U.elim (λO=>lin [p.fst,p.snd,w] [u] .no [.g V0 (.A (.c V0) (.c V1)),.b (.A V0 V1) V2,.f (.c V2) V0] rfl q3.2 pok.2.1 O) (λO=>O.elim (λB=>lin [] [v] .no [.f K0 V0,.g V0 K0] rfl q1 B) (λB=>lin [v.toNat,L.length] [v] .no [.c V0 V1,.f V0 (.c V0),.f (.c V1) V0] rfl this (aI v) B)))
 have left:∀v:Int,-1<=v->v<=L.length->Mj (AL (Ae (L.map (AE w))) w L.length) (-1,v) (-1,-1):=λv a b=>go_col a λu T=>out _ _ (lin [] [] (.f Km1 Km1) [] rfl) (lin [w] [] (.f Km1 (.c V0)) [] rfl) (lin [] [u] (.f Km1 V0) [.f Km1 V0] rfl T.1) (lin [L.length] [v,u] (.f V1 (.c V0)) [.f V0 (.c V0),.f V1 V0] rfl b T.2) (.inl (lin [] [] (.g Km1 K0) [] rfl))
 by_cases Y:0<=y/\y<L.length
 .have hl:y.toNat<L.length:=by exact lin [L.length,y.toNat] [y] (.c V1 V0) [.g V0 (.c V0),.h (.c V1) V0] rfl Y.2 (an (lin [] [y] (.f K0 V0) [.f K0 V0] rfl Y.1))
  have hp:L[y.toNat]?=a0 L[y.toNat]:=ax hl;generalize L[y.toNat]=p at hp;have free:∀u:Int,-1<=u->u<=w->¬((p.1:Int)<=u/\u<p.1+p.2)->(u,y)∈AL (Ae (L.map (AE w))) w L.length:=λu a b c=>by
   refine around_mem.mpr ⟨⟨⟨a,b⟩,by dsimp only;exact lin [] [y] (.f Km1 V0) [.f K0 V0] rfl Y.1,by dsimp only;exact lin [L.length] [y] (.f V0 (.c V0)) [.g V0 (.c V0)] rfl Y.2⟩,λq=>(An ((AP st).mp q) λZ Z1=>(X1pp Z1 λp' q2 q3=>?_))⟩
   dsimp only at q2 q3;rw[hp]at q2;obtain rfl:=ae q2;exact c q3
  have nx:¬((p.1:Int)<=x/\x<p.1+p.2):=λq=>hn ((AP st).mpr ⟨Y.1,p,hp,q⟩)
  by_cases hx:x<p.1
  .exact Mj.trans (Gk λu T=>free u (by exact(aY.mp nx).elim (λU=>T.elim (λO=>lin [] [u] (.f Km1 V0) [.f Km1 V0] rfl O.1) (λO=>lin [] [x,u] (.f Km1 V1) [.f Km1 V0,.f V0 V1] rfl x1 O.1)) (λU=>lin [p.fst,p.snd] [x,u] (.F 0 Km1 V1) [.g V0 (.c V0),.l V0 (.A (.c V0) (.c V1))] rfl hx U)) (by exact(aY.mp nx).elim (λU=>T.elim (λO=>lin [w] [x,u] (.f V1 (.c V0)) [.f V0 (.c V0),.f V1 V0] rfl x2 O.2) (λO=>lin [w] [u] (.f V0 (.c V0)) [.f V0 Km1] rfl O.2)) (λU=>lin [p.fst,p.snd,w] [x,u] (.F 0 V1 (.c V2)) [.g V0 (.c V0),.l V0 (.A (.c V0) (.c V1))] rfl hx U)) (by exact λU=>(aY.mp nx).elim (λO=>T.elim (λB=>lin [p.fst] [x,u] .no [.g V0 (.c V0),.f (.c V0) V1,.f V1 V0] rfl hx U.1 B.2) (λB=>lin [p.fst] [u] .no [.f (.c V0) V0,.f V0 Km1] rfl U.1 B.2)) (λO=>lin [p.fst,p.snd] [x] .no [.g V0 (.c V0),.l V0 (.A (.c V0) (.c V1))] rfl hx O))) (left y (by exact lin [] [y] (.f Km1 V0) [.f K0 V0] rfl Y.1) (by exact lin [L.length] [y] (.f V0 (.c V0)) [.g V0 (.c V0)] rfl Y.2))
  .refine Mj.trans (b:=((w:Int),y)) (Gk λu T=>free u ((aY.mp nx).elim (λU=>lin [p.fst] [x,u] (.F 0 Km1 V1) [.l V0 (.c V0),.k (.c V0) V0] rfl hx U) (λU=>T.elim (λO=>lin [w] [u] (.f Km1 V0) [.f (.c V0) V0] rfl O.1) (λO=>lin [p.fst] [x,u] (.f Km1 V1) [.l V0 (.c V0),.f V0 V1] rfl hx O.1))) ((aY.mp nx).elim (λU=>lin [p.fst,w] [x,u] (.F 0 V1 (.c V1)) [.l V0 (.c V0),.k (.c V0) V0] rfl hx U) (λU=>T.elim (λO=>lin [w] [x,u] (.f V1 (.c V0)) [.f V0 (.c V0),.f V1 V0] rfl x2 O.2) (λO=>lin [w] [u] (.f V0 (.c V0)) [.f V0 (.c V0)] rfl O.2))) (λU=>(aY.mp nx).elim (λO=>lin [p.fst] [x] .no [.l V0 (.c V0),.k (.c V0) V0] rfl hx O) (λO=>T.elim (λB=>lin [w,p.fst,p.snd] [x,u] .no [.f V0 (.c V0),.g V1 (.A (.c V1) (.c V2)),.l V0 (.A (.c V1) (.c V2)),.f (.c V0) V1] rfl x2 U.2 O B.1) (λB=>lin [p.fst,p.snd] [u,x] .no [.g V0 (.A (.c V0) (.c V1)),.l V1 (.A (.c V0) (.c V1)),.f V1 V0] rfl U.2 O B.1)))) ?_
   exact Mj.trans (b:=((w:Int),-1)) (go_col (lin [] [y] (.f Km1 V0) [.f K0 V0] rfl Y.1) λu T=>out _ _ (lin [w] [] (.f Km1 (.c V0)) [] rfl) (lin [w] [] (.f (.c V0) (.c V0)) [] rfl) (lin [] [u] (.f Km1 V0) [.f Km1 V0] rfl T.1) (lin [L.length] [y,u] (.f V1 (.c V0)) [.g V0 (.c V0),.f V1 V0] rfl Y.2 T.2) (.inr (.inl (lin [w] [] (.f (.c V0) (.c V0)) [] rfl)))) (Gk λu T=>out _ _ ((aY.mp nx).elim (λU=>lin [p.fst] [x,u] (.F 0 Km1 V1) [.l V0 (.c V0),.k (.c V0) V0] rfl hx U) (λU=>T.elim (λO=>lin [] [u] (.f Km1 V0) [.f Km1 V0] rfl O.1) (λO=>lin [w] [u] (.f Km1 V0) [.f (.c V0) V0] rfl O.1))) ((aY.mp nx).elim (λU=>lin [p.fst,w] [x,u] (.F 0 V1 (.c V1)) [.l V0 (.c V0),.k (.c V0) V0] rfl hx U) (λU=>T.elim (λO=>lin [w] [u] (.f V0 (.c V0)) [.f V0 (.c V0)] rfl O.2) (λO=>lin [w] [u] (.f V0 (.c V0)) [.f V0 Km1] rfl O.2))) (lin [] [] (.f Km1 Km1) [] rfl) (lin [L.length] [] (.f Km1 (.c V0)) [] rfl) (.inr (.inr (.inl (lin [] [] (.g Km1 K0) [] rfl)))))
 .refine Mj.trans (b:=(-1,y)) (Gk λu T=>out _ _ ((aY.mp Y).elim (λU=>T.elim (λO=>lin [] [u] (.f Km1 V0) [.f Km1 V0] rfl O.1) (λO=>lin [] [x,u] (.f Km1 V1) [.f Km1 V0,.f V0 V1] rfl x1 O.1)) (λU=>T.elim (λO=>lin [] [u] (.f Km1 V0) [.f Km1 V0] rfl O.1) (λO=>lin [] [x,u] (.f Km1 V1) [.f Km1 V0,.f V0 V1] rfl x1 O.1))) ((aY.mp Y).elim (λU=>T.elim (λO=>lin [w] [x,u] (.f V1 (.c V0)) [.f V0 (.c V0),.f V1 V0] rfl x2 O.2) (λO=>lin [w] [u] (.f V0 (.c V0)) [.f V0 Km1] rfl O.2)) (λU=>T.elim (λO=>lin [w] [x,u] (.f V1 (.c V0)) [.f V0 (.c V0),.f V1 V0] rfl x2 O.2) (λO=>lin [w] [u] (.f V0 (.c V0)) [.f V0 Km1] rfl O.2))) (lin [] [y] (.f Km1 V0) [.f Km1 V0] rfl y1) (lin [L.length] [y] (.f V0 (.c V0)) [.f V0 (.c V0)] rfl y2) (.inr (.inr (cg λU=>(aY.mp Y).elim (λO=>lin [] [y] .no [.l V0 K0,.k K0 V0] rfl (λz=>U (.inl z)) O) (λO=>lin [L.length] [y] .no [.k (.c V0) V0,.l V0 (.c V0)] rfl (λz=>U (.inr z)) O))))) (left y (lin [] [y] (.f Km1 V0) [.f Km1 V0] rfl y1) (lin [L.length] [y] (.f V0 (.c V0)) [.f V0 (.c V0)] rfl y2))
end
section
theorem Flo.of(g:Mr G w)(d:Ae G≠[])(j:Me (Ae G))(o:∀k∈AL (Ae G) w G.length,Mj (AL (Ae G) w G.length) k (-1,-1)):Flo G w:=by
 refine⟨g,?_,λk B=>(o k B).symm B⟩
 cases e:Ae G with
 |nil=>exact absurd e d
 |cons a U =>
  refine⟨a,U,rfl,λk B=>?_⟩;rw[<- e]at B ⊢;exact j a (by rw[e];exact .head _) k B
theorem IP(u:2<=w)(y:w<=6)(Y:1<=L.length)(O:L.length<=6)(st:Mq ev w L):Flo (L.map (AE w)) w:=by
 refine Flo.of (GY st Y O u y) ?_ (Cx st) λk B=>?_
 .cases L with
  |nil=>exact absurd Y (by decide)
  |cons p L =>
   have T:=st.ok p (.head _);intro e
   have:((p.1:Int),(0:Int))∈Ae ((p::L).map (AE w)):=(AP st).mpr ⟨fh _,p,rfl,by dsimp only;exact⟨lin [p.fst] [] (.f (.c V0) (.c V0)) [] rfl,lin [p.snd,p.fst] [] (.g (.c V1) (.A (.c V1) (.c V0))) [.b K1 V0] rfl T.1⟩⟩
   rw[e]at this;exact nM this
 .rw[aj]at B ⊢
  exact EG st B
theorem Hi:∀{n i:Nat},i<n->(ivs a n)[i]?=a0 (a+i)
 |0,_,h=>absurd h (ej _)
 |n+1,0,_=>by show a0 a=_;rw[show a+((0:Nat):Int)=a by exact af (lin [] [a] (.f (.A V0 (.c K0)) V0) [] rfl) (lin [] [a] (.f V0 (.A V0 (.c K0))) [] rfl)]
 |n+1,i+1,h=>by
  show (ivs (a+1) n)[i]?=_;rw[Hi (d8 h)]
  congr 1
  exact af (lin [i] [a] (.f (.A (.A V0 K1) (.c V0)) (.A V0 (.c (.A V0 K1)))) [] rfl) (lin [i] [a] (.f (.A V0 (.c (.A V0 K1))) (.A (.A V0 K1) (.c V0))) [] rfl)
theorem JN(g:Mr G w):Mr (trG G w) G.length:=by
 have h1:=g.w1;have z:=g.w6;refine⟨?_,?_,g.h1,g.h6,λr y=>?_⟩
 .unfold trG;rwa [aj,AB]
 .unfold trG;rwa [aj,AB]
 .refine X1pr r (aJ.mp y) λx Z=>?_
  unfold colG;rw[aj]
theorem Dm(g:Mr G w):k∈Ae (trG G w)↔sw k∈Ae G:=by
 constructor
 .refine λh=>B4 ((JN g).in h) λY z U d=>?_
  have u:(trG G w).length=w:=by unfold trG;rw[aj,AB]
  rw[u]at d;refine An (cellsOf_mem.mp h) λZ O=>X1ppp O λr y Z B=>?_;unfold trG at y;rw[aM,Hi (by exact lin [w,k.snd.toNat] [k.snd] (.c V1 V0) [.g V0 (.c V0),.h (.c V1) V0] rfl d (an (lin [] [k.snd] (.f K0 V0) [.f K0 V0] rfl U)))]at y
  obtain rfl:=ae y;unfold colG at B;rw[aM]at B;refine cellsOf_mem.mpr ⟨Y,?_⟩
  cases e:G[k.1.toNat]? with
  |none=>rw[e]at B;exact nS B
  |some r =>
   rw[e]at B;have B:r.getD (0+(k.2.toNat:Int)).toNat a7=a6:=ae B;rw[show (0+(k.2.toNat:Int)).toNat=k.2.toNat by rw[cJ];rfl]at B
   refine⟨r,e,U,?_⟩;rw[aD]at B;show r[k.2.toNat]?=a0 a6
   cases e2:r[k.2.toNat]? with|none=>rw[e2]at B;exact nF B|some b=>rw[e2]at B;rw[show b=a6 from B]
 .refine λh=>B4 (g.in h) λY z U d=>An (cellsOf_mem.mp h) λZ T=>X1ppp T λr y Z B=>?_
  have Y:0<=k.2:=Y;have z:k.2<w:=z;have y:G[k.1.toNat]?=a0 r:=y;have B:r[k.2.toNat]?=a0 a6:=B;refine cellsOf_mem.mpr ⟨Y,colG G (0+(k.2.toNat:Int)),?_,U,?_⟩
  .unfold trG;rw[aM,Hi (by exact lin [w,k.snd.toNat] [k.snd] (.c V1 V0) [.g V0 (.c V0),.h (.c V1) V0] rfl z (an (lin [] [k.snd] (.f K0 V0) [.f K0 V0] rfl Y)))];rfl
  .unfold colG
   rw[aM,y];show a0 (r.getD (0+(k.2.toNat:Int)).toNat a7)=a0 a6;rw[show (0+(k.2.toNat:Int)).toNat=k.2.toNat by rw[cJ];rfl,aD,B];rfl
theorem IM(k:Sp):sw (sw k)=k:=rfl
theorem tr_flo(g:Mr G w)(d:Ae G≠[])(j:Me (Ae G))(o:∀k∈AL (Ae G) w G.length,Mj (AL (Ae G) w G.length) k (-1,-1)):Flo (trG G w) G.length:=by
 have u:(trG G w).length=w:=by unfold trG;rw[aj,AB]
 refine Flo.of (JN g) ?_ (λa ha b z=>?_) λk B=>?_
 .intro e
  cases e2:Ae G with
  |nil=>exact d e2
  |cons a U =>
   have:sw a∈Ae (trG G w):=(Dm g).mpr (by rw[IM,e2];exact .head _)
   rw[e]at this;exact nM this
 .have:=Mj.into (Q:=Ae (trG G w)) sw (λc d=>(Dm g).mpr (by rwa [IM])) GX (j _ ((Dm g).mp ha) _ ((Dm g).mp z))
  rwa [IM,IM]at this
 .rw[u]at B ⊢
  have mem:∀c,c∈AL (Ae (trG G w)) G.length w↔sw c∈AL (Ae G) w G.length:=λc=>by
   rw[around_mem,around_mem,Dm g];exact⟨λh=>⟨⟨h.1.2,h.1.1⟩,h.2⟩,λh=>⟨⟨h.1.2,h.1.1⟩,h.2⟩⟩
  have:=Mj.into (Q:=AL (Ae (trG G w)) G.length w) sw (λc d=>(mem _).mpr (by rwa [IM])) GX (o _ ((mem k).mp B))
  rwa [IM]at this
noncomputable def grow(P fs:List Sp):List Sp:=P.foldl (λfs k=>if (!(fs.contains k) && fs.any λc=>(A8 c).contains k)=a6 then fs++[k] else fs) fs
noncomputable def growN(P:List Sp):Nat->List Sp->List Sp
 |0,fs=>fs
 |n+1,fs=>growN P n (grow P fs)
set_option tactic.hygienic true in
theorem Li:∀{Q fs:List Sp},(∀k∈Q,k∈P)->(∀k∈fs,Mj P a k)->∀k∈Q.foldl (λfs k=>if (!(fs.contains k) && fs.any λc=>(A8 c).contains k)=a6 then fs++[k] else fs) fs,Mj P a k
 |[],fs,_,h,k,hk=>h k hk
 |q::Q,fs,hQ,h,k,hk=>by
  rw[cU]at hk;refine Li (Q:=Q) (λz hz=>hQ z (.tail _ hz)) (λz hz=>?_) k hk
  split at hz
  .rename_i c
   rcases aK.mp hz with O|O
   .exact h z O
   .rw[ay.mp O]
    exact X1pp (dW.mp (aO.mp c).2) λB d y=>.step (h B d) (fV.mp y) (hQ q (.head _))
  .exact h z hz
theorem growN_ok:∀{n:Nat}{fs:List Sp},(∀k∈fs,Mj P a k)->∀k∈growN P n fs,Mj P a k
 |0,fs,h=>h
 |n+1,fs,h=>growN_ok (n:=n) (Li (λZ h=>h) h)
noncomputable def hangB(P:List Sp)(a:Sp):Bool:=P.all λk=>(growN P 10 [a]).contains k
theorem Ib(h:hangB P a=a6):Mp P a:=λk B =>
 growN_ok (n:=10) (fs:=[a]) (λk B=>by rw[ay.mp B];exact .refl) k (fV.mp (cB.mp h k B))
noncomputable def floB(G:Gr)(w:Nat):Bool:=(decide (1<=G.length/\G.length<=6/\1<=w/\w<=6) && G.all λr=>r.length == w) && ((match Ae G with
 |[]=>a7
 |a::_=>hangB (Ae G) a) && hangB (AL (Ae G) w G.length) (-1,-1))
theorem Flo.ofB(h:floB G w=a6):Flo G w:=by
 unfold floB at h;rw[bc,bc,bc,decide_eq_true_eq]at h;obtain⟨⟨⟨U,B,Y,z⟩,T⟩,O,u⟩:=h;refine⟨⟨U,B,Y,z,λr y=>eq_of_beq (cB.mp T r y)⟩,?_,Ib u⟩
 cases e:Ae G with|nil=>rw[e]at O;exact nF O|cons a d=>rw[e]at O;exact⟨a,d,rfl,Ib O⟩
noncomputable def gOf(l:List String):Gr:=l.map λs=>s.toList.map λc=>c == '#'
end
section
theorem DH{l:List String}{G:Gr}(h:l.map ct=G.map Ca):(l.map λs=>AV.str (ct s))=AA G:=by
 have:=congrArg (List.map AV.str) h
 rw[aV,aV]at this;exact this
theorem four{x:Int}(h:0<=x/\x<4):x.toNat=0\/x.toNat=1\/x.toNat=2\/x.toNat=3:=by
 obtain⟨n,rfl⟩:=cF h.1
 match n,h.2 with
 |0,_=>exact .inl rfl
 |1,_=>exact .inr (.inl rfl)
 |2,_=>exact .inr (.inr (.inl rfl))
 |3,_=>exact .inr (.inr (.inr rfl))
 |n+4,h=>exact absurd (Int.ofNat_lt.mp h) (de.mpr (Nat.le_add_left 4 n))
noncomputable def corC(G:Gr)(w:Nat):List Ah:=(box (ivs 0 (w+1)) (ivs 0 (G.length+1))).filter λk=>decide (k∈BS (Ae G))
theorem ivs_up:∀{n:Nat},(ivs a n).Pairwise (·<·)
 |0=>.nil
 |n+1=>fe.mpr ⟨λx u=>by rw[ivs_mem]at u;exact lin [] [a,x] (.g V0 V1) [.f (.A V0 K1) V1] rfl u.1,ivs_up⟩
theorem box_up(u:xs.Pairwise (·<·)):∀{O:List Int},O.Pairwise (·<·)->(box xs O).Pairwise lt2
 |[],_=>.nil
 |y::O,hy=>by
  rw[fe]at hy;show ((xs.map λx=>(x,y))++box xs O).Pairwise lt2;exact List.pairwise_append.mpr ⟨b6.mpr (u.imp λh=>.inr ⟨rfl,h⟩),box_up u hy.2,λa ha b z=>(X1pr a (aJ.mp ha) λx Z=>(.inl (hy.1 _ (box_mem.mp z).2)))⟩
theorem Mr.cor(g:Mr G w):Cor (Ae G) (corC G w):=by
 have h6:=g.h6;have w6:=g.w6;refine⟨(box_up ivs_up ivs_up).filter _,λk=>?_,?_⟩
 .unfold corC
  rw[cA,decide_eq_true_eq,cornF_mem];refine⟨λh=>h.2,λh=>⟨X1pp h λc d B=>(B4 (g.in d) λO U T y=>?_),h⟩⟩;rw[box_mem,ivs_mem,ivs_mem];unfold Bt at B;simp only[az,bp,or_false]at B
  rcases B with rfl|rfl|rfl|rfl<;>dsimp only<;>omega
 .refine cW (dA _ _) ?_
  rw[Hy,AB,AB];exact cW (dZ (show G.length+1<=7 by exact lin [bW G] [] (.b (.A V0 K1) K7) [.b V0 K6] rfl h6) (show w+1<=7 by exact lin [w] [] (.b (.A V0 K1) K7) [.b V0 K6] rfl w6)) (by decide)
end
section
noncomputable def sg(k:Sp):Int:=match dark k with
 |true=>1
 |false=>-1
theorem BL(h:b∈A8 a):sg b=- sg a:=by
 unfold sg;rw[B3 h]
 cases dark a<;>rfl
theorem B9(k:Sp):sg k=1\/sg k=-1:=by
 unfold sg
 cases dark k
 .exact .inr rfl
 .exact .inl rfl
def Mt(P:List Sp)(m:Sp->Sp):Prop:=∀x∈P,m x∈nbP P x/\m (m x)=x
noncomputable def stp(P:List Sp)(m:Sp->Sp)(l r:Sp):Int:=if l∈P/\m l=r then -3 * sg l else sg l
theorem DB(M:Mt P m)(n:r∈A8 l):stp P m r l=- stp P m l r:=by
 have e:=BL n;unfold stp
 by_cases q:l∈P/\m l=r
 .have:r∈P/\m r=l:=⟨q.2▸(nbP_mem.mp (M l q.1).1).2.2,q.2▸(M l q.1).2⟩
  rw[if_pos q,if_pos this,e];exact af (lin [] [sg l] (.f (.M (-3) (.N V0)) (.N (.M (-3) V0))) [] rfl) (lin [] [sg l] (.f (.N (.M (-3) V0)) (.M (-3) (.N V0))) [] rfl)
 .have:¬(r∈P/\m r=l):=λz=>q ⟨z.2▸(nbP_mem.mp (M r z.1).1).2.2,z.2▸(M r z.1).2⟩
  rw[if_neg q,if_neg this,e]
structure HT(P:List Sp)(m:Sp->Sp)(h:Sp->Int):Prop where
 r:∀x y,(x,y - 1)∈P\/(x,y)∈P->h (x+1,y) - h (x,y)=stp P m (x,y - 1) (x,y)
 d:∀x y,(x,y)∈P\/(x - 1,y)∈P->h (x,y+1) - h (x,y)=stp P m (x,y) (x - 1,y)
inductive Hd(x y:Int):Sp->Sp->Sp->Sp->Prop
 |r:Hd x y (1,0) (x+1,y) (x,y - 1) (x,y)
 |d:Hd x y (0,1) (x,y+1) (x,y) (x - 1,y)
 |l:Hd x y (-1,0) (x - 1,y) (x - 1,y) (x - 1,y - 1)
 |u:Hd x y (0,-1) (x,y - 1) (x - 1,y - 1) (x,y - 1)
noncomputable def ways:List Sp:=[(1,0),(0,1),(-1,0),(0,-1)]
theorem HT.way(H:HT P m h)(M:Mt P m){w o l r:Sp}(z:Hd x y w o l r)(q:l∈P\/r∈P):h o - h (x,y)=stp P m l r:=by
 induction z using Hd.casesOn with
 |r=>exact H.r x y q
 |d=>exact H.d x y q
 |l =>
  have:=H.r (x - 1) y q.symm
  rw[aN]at this;rw[DB M (Bv CG),<- this];exact af (lin [] [h (x - 1,y),h (x,y)] (.f (.S V0 V1) (.N (.S V1 V0))) [] rfl) (lin [] [h (x,y),h (x - 1,y)] (.f (.N (.S V0 V1)) (.S V1 V0)) [] rfl)
 |u =>
  have:=H.d x (y - 1) q.symm
  rw[aN]at this;rw[DB M Do,<- this];exact af (lin [] [h (x,y - 1),h (x,y)] (.f (.S V0 V1) (.N (.S V1 V0))) [] rfl) (lin [] [h (x,y),h (x,y - 1)] (.f (.N (.S V0 V1)) (.S V1 V0)) [] rfl)
def Fo(x y:Int)(k:Sp):Prop:=(k.1=x - 1\/k.1=x)/\(k.2=y - 1\/k.2=y)
noncomputable def mir(x y:Int):Bool->Sp->Sp
 |false,k=>(2 * x - 1 - k.1,k.2)
 |true,k=>(k.1,2 * y - 1 - k.2)
theorem HW(h:Fo x y k):Fo x y (mir x y v k):=by
 refine An h λu d=>?_
 cases v with|false=>exact⟨by show 2 * x - 1 - k.1=_\/2 * x - 1 - k.1=_;exact cg λB=>u.elim (λO=>d.elim (λT=>(aW (λz=>B (.inr z))).elim (λY=>lin [] [k.fst,x] .no [.h V0 (.S V1 K1),.g (.S (.S (.M 2 V1) K1) V0) V1] rfl O Y) (λY=>lin [] [k.fst,x] .no [.H (-1) V0 (.S V1 K1),.g V1 (.S (.S (.M 2 V1) K1) V0)] rfl O Y)) (λT=>(aW (λz=>B (.inr z))).elim (λY=>lin [] [k.fst,x] .no [.h V0 (.S V1 K1),.g (.S (.S (.M 2 V1) K1) V0) V1] rfl O Y) (λY=>lin [] [k.fst,x] .no [.H (-1) V0 (.S V1 K1),.g V1 (.S (.S (.M 2 V1) K1) V0)] rfl O Y))) (λO=>d.elim (λT=>(aW (λz=>B (.inl z))).elim (λU=>lin [] [k.fst,x] .no [.h V0 V1,.g (.S (.S (.M 2 V1) K1) V0) (.S V1 K1)] rfl O U) (λU=>lin [] [k.fst,x] .no [.H (-1) V0 V1,.g (.S V1 K1) (.S (.S (.M 2 V1) K1) V0)] rfl O U)) (λT=>(aW (λz=>B (.inl z))).elim (λU=>lin [] [k.fst,x] .no [.h V0 V1,.g (.S (.S (.M 2 V1) K1) V0) (.S V1 K1)] rfl O U) (λU=>lin [] [k.fst,x] .no [.H (-1) V0 V1,.g (.S V1 K1) (.S (.S (.M 2 V1) K1) V0)] rfl O U))),d⟩|true=>exact⟨u,by show 2 * y - 1 - k.2=_\/2 * y - 1 - k.2=_;exact cg λB=>u.elim (λO=>d.elim (λT=>(aW (λz=>B (.inr z))).elim (λY=>lin [] [k.snd,y] .no [.h V0 (.S V1 K1),.g (.S (.S (.M 2 V1) K1) V0) V1] rfl T Y) (λY=>lin [] [k.snd,y] .no [.H (-1) V0 (.S V1 K1),.g V1 (.S (.S (.M 2 V1) K1) V0)] rfl T Y)) (λT=>(aW (λz=>B (.inl z))).elim (λU=>lin [] [k.snd,y] .no [.h V0 V1,.g (.S (.S (.M 2 V1) K1) V0) (.S V1 K1)] rfl T U) (λU=>lin [] [k.snd,y] .no [.H (-1) V0 V1,.g (.S V1 K1) (.S (.S (.M 2 V1) K1) V0)] rfl T U))) (λO=>d.elim (λT=>(aW (λz=>B (.inr z))).elim (λY=>lin [] [k.snd,y] .no [.h V0 (.S V1 K1),.g (.S (.S (.M 2 V1) K1) V0) V1] rfl T Y) (λY=>lin [] [k.snd,y] .no [.H (-1) V0 (.S V1 K1),.g V1 (.S (.S (.M 2 V1) K1) V0)] rfl T Y)) (λT=>(aW (λz=>B (.inl z))).elim (λU=>lin [] [k.snd,y] .no [.h V0 V1,.g (.S (.S (.M 2 V1) K1) V0) (.S V1 K1)] rfl T U) (λU=>lin [] [k.snd,y] .no [.H (-1) V0 V1,.g (.S V1 K1) (.S (.S (.M 2 V1) K1) V0)] rfl T U)))⟩
theorem KC:mir x y v (mir x y v k)=k:=by
 cases v with|false=>exact bX (by show 2 * x - 1 - (2 * x - 1 - k.1)=k.1;exact af (lin [] [x,k.fst] (.f (.S (.S (.M 2 V0) K1) (.S (.S (.M 2 V0) K1) V1)) V1) [] rfl) (lin [] [k.fst,x] (.f V0 (.S (.S (.M 2 V1) K1) (.S (.S (.M 2 V1) K1) V0))) [] rfl)) rfl|true=>exact bX rfl (by show 2 * y - 1 - (2 * y - 1 - k.2)=k.2;exact af (lin [] [y,k.snd] (.f (.S (.S (.M 2 V0) K1) (.S (.S (.M 2 V0) K1) V1)) V1) [] rfl) (lin [] [k.snd,y] (.f V0 (.S (.S (.M 2 V1) K1) (.S (.S (.M 2 V1) K1) V0))) [] rfl))
theorem mir_near(h:Fo x y k):mir x y v k∈A8 k:=by
 obtain⟨a,b⟩:=k;refine An h λY z=>?_;dsimp only at Y z
 cases v with
 |false =>
  show (2 * x - 1 - a,b)∈_
  rcases Y with e|e
  .rw[show 2 * x - 1 - a=a+1 by exact af (lin [] [a,x] (.f (.S (.S (.M 2 V1) K1) V0) (.A V0 K1)) [.H (-2) V0 (.S V1 K1)] rfl e) (lin [] [a,x] (.f (.A V0 K1) (.S (.S (.M 2 V1) K1) V0)) [.H 2 V0 (.S V1 K1)] rfl e)];exact AI .r
  .rw[show 2 * x - 1 - a=a - 1 by exact af (lin [] [a,x] (.f (.S (.S (.M 2 V1) K1) V0) (.S V0 K1)) [.H (-2) V0 V1] rfl e) (lin [] [a,x] (.f (.S V0 K1) (.S (.S (.M 2 V1) K1) V0)) [.H 2 V0 V1] rfl e)];exact AI .l
 |true =>
  show (a,2 * y - 1 - b)∈_
  rcases z with e|e
  .rw[show 2 * y - 1 - b=b+1 by exact af (lin [] [b,y] (.f (.S (.S (.M 2 V1) K1) V0) (.A V0 K1)) [.H (-2) V0 (.S V1 K1)] rfl e) (lin [] [b,y] (.f (.A V0 K1) (.S (.S (.M 2 V1) K1) V0)) [.H 2 V0 (.S V1 K1)] rfl e)];exact AI .d
  .rw[show 2 * y - 1 - b=b - 1 by exact af (lin [] [b,y] (.f (.S (.S (.M 2 V1) K1) V0) (.S V0 K1)) [.H (-2) V0 V1] rfl e) (lin [] [b,y] (.f (.S V0 K1) (.S (.S (.M 2 V1) K1) V0)) [.H 2 V0 V1] rfl e)];exact AI .u
structure Tn(P:List Sp)(x y:Int)(v:Bool)(m m':Sp->Sp):Prop where
 inP:∀k,Fo x y k->k∈P
 p:∀k,Fo x y k->m k=mir x y v k
 p':∀k,Fo x y k->m' k=mir x y (!v) k
 o:∀k,¬Fo x y k->m' k=m k
theorem Tn.mt(T:Tn P x y v m m')(M:Mt P m):Mt P m':=λk B=>by
 by_cases f:Fo x y k
 .rw[T.p' k f]
  exact⟨nbP_mem.mpr ⟨B,mir_near f,T.inP _ (HW f)⟩,by rw[T.p' _ (HW f),KC]⟩
 .have nf:¬Fo x y (m k):=λz=>f (by rw[<- (M k B).2,T.p _ z];exact HW z)
  rw[T.o k f,T.o _ nf];exact M k B
theorem Tn.same(T:Tn P x y v m m')(n:¬(Fo x y l/\Fo x y r)):stp P m' l r=stp P m l r:=by
 unfold stp
 by_cases f:Fo x y l
 .have ne:∀{v},mir x y v l≠r:=λ{v} e=>n ⟨f,e▸HW f⟩
  rw[T.p l f,T.p' l f,if_neg λz=>ne z.2,if_neg λz=>ne z.2]
 .rw[T.o l f]
noncomputable def hq(v:Bool):Int:=match v with
 |true=>-3
 |false=>1
theorem stp_r(B:∀k,Fo x y k->k∈P)(p:∀k,Fo x y k->m k=mir x y v k)(T:u=x - 1\/u=x):stp P m (u,y - 1) (u,y)=hq v * sg (u,y - 1):=by
 have f:Fo x y (u,y - 1):=⟨T,.inl rfl⟩;unfold stp;rw[p _ f]
 cases v with|true=>rw[if_pos ⟨B _ f,bX rfl (by show 2 * y - 1 - (y - 1)=y;exact af (lin [] [y] (.f (.S (.S (.M 2 V0) K1) (.S V0 K1)) V0) [] rfl) (lin [] [y] (.f V0 (.S (.S (.M 2 V0) K1) (.S V0 K1))) [] rfl))⟩];rfl|false=>rw[if_neg λz=>by have:y - 1=y:=congrArg eu z.2;exact lin [] [y] .no [.H (-1) (.S V0 K1) V0] rfl this];show _=1 * _;exact af (lin [] [sg (u,y - 1)] (.f V0 (.M 1 V0)) [] rfl) (lin [] [sg (u,y - 1)] (.f (.M 1 V0) V0) [] rfl)
theorem stp_d(B:∀k,Fo x y k->k∈P)(p:∀k,Fo x y k->m k=mir x y v k)(T:u=y - 1\/u=y):stp P m (x,u) (x - 1,u)=hq (!v) * sg (x,u):=by
 have f:Fo x y (x,u):=⟨.inr rfl,T⟩;unfold stp;rw[p _ f]
 cases v with|false=>rw[if_pos ⟨B _ f,bX (by show 2 * x - 1 - x=x - 1;exact af (lin [] [x] (.f (.S (.S (.M 2 V0) K1) V0) (.S V0 K1)) [] rfl) (lin [] [x] (.f (.S V0 K1) (.S (.S (.M 2 V0) K1) V0)) [] rfl)) rfl⟩];rfl|true=>rw[if_neg λz=>by have:x=x - 1:=congrArg dK z.2;exact lin [] [x] .no [.h V0 (.S V0 K1)] rfl this];show _=1 * _;exact af (lin [] [sg (x,u)] (.f V0 (.M 1 V0)) [] rfl) (lin [] [sg (x,u)] (.f (.M 1 V0) V0) [] rfl)
noncomputable def hup(x y:Int)(v:Bool)(h:Sp->Int)(k:Sp):Int:=if k=(x,y) then h k+(hq v * sg (x,y - 1) - hq (!v) * sg (x,y - 1)) else h k
theorem Tn.ht(T:Tn P x y v m m')(H:HT P m h):HT P m' (hup x y v h):=by
 have at_:hup x y v h (x,y)=h (x,y)+(hq v * sg (x,y - 1) - hq (!v) * sg (x,y - 1)):=if_pos rfl;have U:∀{k},k≠(x,y)->hup x y v h k=h k:=λn=>if_neg n;have s1:sg (x - 1,y - 1)=- sg (x,y - 1):=BL Do;have s2:sg (x,y)=- sg (x,y - 1):=BL (Bv CG);have nx:∀{a b:Int},a≠x->((a,b):Sp)≠(x,y):=λn e=>n (congrArg dK e);have ny:∀{a b:Int},b≠y->((a,b):Sp)≠(x,y):=λn e=>n (congrArg eu e);have B:∀z:Int,z - 1≠z:=λz=>by exact λO=>lin [] [z] .no [.H (-1) (.S V0 K1) V0] rfl O
 have u:∀z:Int,z+1≠z:=λz=>by exact λO=>lin [] [z] .no [.h (.A V0 K1) V0] rfl O
 refine⟨λa b q=>?_,λa b q=>?_⟩
 .have Y:=H.r a b q
  by_cases e:b=y/\(a=x - 1\/a=x)
  .obtain⟨rfl,e⟩:=e
   rw[stp_r T.inP T.p e]at Y;rw[stp_r T.inP T.p' e]
   rcases e with rfl|rfl
   .rw[aN,s1,Int.mul_neg]at Y
    rw[aN,at_,U (nx (B _)),s1,Int.mul_neg];clear T H q nx ny B u U at_ s1 s2;exact af (lin [] [h (x,b),h (x - 1,b),hq v * sg (x,b - 1),(hq !v) * sg (x,b - 1)] (.f (.S (.A V0 (.S V2 V3)) V1) (.N V3)) [.h (.S V0 V1) (.N V2)] rfl Y) (lin [] [h (x,b),h (x - 1,b),hq v * sg (x,b - 1),(hq !v) * sg (x,b - 1)] (.f (.N V3) (.S (.A V0 (.S V2 V3)) V1)) [.H (-1) (.S V0 V1) (.N V2)] rfl Y)
   .rw[at_,U (nx (u _))]
    clear T H q nx ny B u U at_ s1 s2;exact af (lin [] [h (a+1,b),h (a,b),hq v * sg (a,b - 1),(hq !v) * sg (a,b - 1)] (.f (.S V0 (.A V1 (.S V2 V3))) V3) [.h (.S V0 V1) V2] rfl Y) (lin [] [h (a+1,b),h (a,b),hq v * sg (a,b - 1),(hq !v) * sg (a,b - 1)] (.f V3 (.S V0 (.A V1 (.S V2 V3)))) [.H (-1) (.S V0 V1) V2] rfl Y)
  .have n1:¬(Fo x y (a,b - 1)/\Fo x y (a,b)):=λ⟨z,z'⟩=>e ⟨by have h1:=z.2;have h2:=z'.2;dsimp only at h1 h2;clear T H q nx ny B u U at_ s1 s2 z z' e Y;exact af (h1.elim (λO=>lin [] [b,y] (.f V0 V1) [.h (.S V0 K1) (.S V1 K1)] rfl O) (λO=>h2.elim (λz1=>lin [] [b,y] (.f V0 V1) [.h V0 (.S V1 K1)] rfl z1) (λz1=>lin [] [b,y] (.f V0 V1) [.h V0 V1] rfl z1))) (h1.elim (λO=>lin [] [b,y] (.f V1 V0) [.H (-1) (.S V0 K1) (.S V1 K1)] rfl O) (λO=>lin [] [b,y] (.f V1 V0) [.H (-1) (.S V0 K1) V1] rfl O)),z'.1⟩
   rw[T.same n1,U λz=>e ⟨congrArg eu z,.inl (by have h1:a+1=x:=congrArg dK z;clear T H q nx ny B u U at_ s1 s2 z n1 e Y;exact af (lin [] [a,x] (.f V0 (.S V1 K1)) [.h (.A V0 K1) V1] rfl h1) (lin [] [a,x] (.f (.S V1 K1) V0) [.H (-1) (.A V0 K1) V1] rfl h1))⟩,U λz=>e ⟨congrArg eu z,.inr (congrArg dK z)⟩]
   exact Y
 .have Y:=H.d a b q
  by_cases e:a=x/\(b=y - 1\/b=y)
  .obtain⟨rfl,e⟩:=e
   rw[stp_d T.inP T.p e]at Y;rw[stp_d T.inP T.p' e,Bool.not_not]
   rcases e with rfl|rfl
   .rw[aN]at Y
    rw[aN,at_,U (ny (B _))];clear T H q nx ny B u U at_ s1 s2;exact af (lin [] [h (a,y),h (a,y - 1),(hq !v) * sg (a,y - 1),hq v * sg (a,y - 1)] (.f (.S (.A V0 (.S V3 V2)) V1) V3) [.h (.S V0 V1) V2] rfl Y) (lin [] [h (a,y),h (a,y - 1),(hq !v) * sg (a,y - 1),hq v * sg (a,y - 1)] (.f V3 (.S (.A V0 (.S V3 V2)) V1)) [.H (-1) (.S V0 V1) V2] rfl Y)
   .rw[s2,Int.mul_neg]at Y
    rw[at_,U (ny (u _)),s2,Int.mul_neg];clear T H q nx ny B u U at_ s1 s2;exact af (lin [] [h (a,b+1),h (a,b),(hq !v) * sg (a,b - 1),hq v * sg (a,b - 1)] (.f (.S V0 (.A V1 (.S V3 V2))) (.N V3)) [.h (.S V0 V1) (.N V2)] rfl Y) (lin [] [h (a,b+1),h (a,b),(hq !v) * sg (a,b - 1),hq v * sg (a,b - 1)] (.f (.N V3) (.S V0 (.A V1 (.S V3 V2)))) [.H (-1) (.S V0 V1) (.N V2)] rfl Y)
  .have n1:¬(Fo x y (a,b)/\Fo x y (a - 1,b)):=λ⟨z,z'⟩=>e ⟨by have h1:=z.1;have h2:=z'.1;dsimp only at h1 h2;clear T H q nx ny B u U at_ s1 s2 z z' e Y;exact af (h1.elim (λO=>lin [] [a,x] (.f V0 V1) [.h V0 (.S V1 K1)] rfl O) (λO=>lin [] [a,x] (.f V0 V1) [.h V0 V1] rfl O)) (h1.elim (λO=>h2.elim (λz1=>lin [] [a,x] (.f V1 V0) [.H (-1) (.S V0 K1) (.S V1 K1)] rfl z1) (λz1=>lin [] [a,x] (.f V1 V0) [.H (-1) (.S V0 K1) V1] rfl z1)) (λO=>lin [] [a,x] (.f V1 V0) [.H (-1) V0 V1] rfl O)),z.2⟩
   rw[T.same n1,U λz=>e ⟨congrArg dK z,.inl (by have h1:b+1=y:=congrArg eu z;clear T H q nx ny B u U at_ s1 s2 z n1 e Y;exact af (lin [] [b,y] (.f V0 (.S V1 K1)) [.h (.A V0 K1) V1] rfl h1) (lin [] [b,y] (.f (.S V1 K1) V0) [.H (-1) (.A V0 K1) V1] rfl h1))⟩,U λz=>e ⟨congrArg dK z,.inr (congrArg eu z)⟩]
   exact Y
theorem near_sw(h:b∈A8 a):sw b∈A8 (sw a):=GX _ _ h
theorem Mt.sw(M:Mt P m)(d:∀k,k∈P'↔sw k∈P):Mt P' λk=>sw (m (sw k)):=λk B=>by
 exact An (M _ ((d k).mp B)) λy z=>Bo (nbP_mem.mp y) λZ U Y=>⟨nbP_mem.mpr ⟨B,near_sw U,(d _).mpr Y⟩,congrArg Internal.sw z⟩
theorem sg_sw(k:Sp):sg (sw k)=sg k:=by
 unfold sg dark sw;rw[Int.add_comm]
theorem HT.sw(H:HT P m h)(M:Mt P m)(U:∀k,k∈P'↔sw k∈P):HT P' (λk=>Internal.sw (m (Internal.sw k))) λk=>- h (Internal.sw k):=by
 have e:∀l r,stp P' (λk=>Internal.sw (m (Internal.sw k))) l r=stp P m (Internal.sw l) (Internal.sw r):=λl r=>by
  unfold stp
  have:(l∈P'/\Internal.sw (m (Internal.sw l))=r)↔(Internal.sw l∈P/\m (Internal.sw l)=Internal.sw r):=and_congr (U l) ⟨λz=>by rw[<- z];rfl,λz=>by rw[z];rfl⟩
  rw[sg_sw]
  by_cases q:Internal.sw l∈P/\m (Internal.sw l)=Internal.sw r
  .rw[if_pos q,if_pos (this.mpr q)]
  .rw[if_neg q,if_neg λz=>q (this.mp z)]
 refine⟨λx y q=>?_,λx y q=>?_⟩
 .have:=H.d y x (q.symm.imp (U _).mp (U _).mp)
  rw[e,show Internal.sw (x,y - 1)=(y - 1,x) from rfl,show Internal.sw (x,y)=(y,x) from rfl,DB M Do,<- this]
  show - h (y,x+1) - - h (y,x)=_;exact af (lin [] [h (y,x+1),h (y,x)] (.f (.S (.N V0) (.N V1)) (.N (.S V0 V1))) [] rfl) (lin [] [h (y,x+1),h (y,x)] (.f (.N (.S V0 V1)) (.S (.N V0) (.N V1))) [] rfl)
 .have:=H.r y x (q.symm.imp (U _).mp (U _).mp)
  rw[e,show Internal.sw (x - 1,y)=(y,x - 1) from rfl,show Internal.sw (x,y)=(y,x) from rfl,DB M (Bv CG),<- this]
  show - h (y+1,x) - - h (y,x)=_;exact af (lin [] [h (y+1,x),h (y,x)] (.f (.S (.N V0) (.N V1)) (.N (.S V0 V1))) [] rfl) (lin [] [h (y+1,x),h (y,x)] (.f (.N (.S V0 V1)) (.S (.N V0) (.N V1))) [] rfl)
noncomputable def flM(b:Int->Int)(k:Sp):Sp:=if (k.1 - b k.2) % 2=0 then (k.1+1,k.2) else (k.1 - 1,k.2)
noncomputable def eb(k:Sp):Int:=match dark k with
 |true=>0
 |false=>-1
theorem sg_eb(k:Sp):sg k=2 * eb k+1:=by
 unfold sg eb
 cases dark k<;>rfl
theorem Hp(h:b∈A8 a):eb b=-1 - eb a:=by
 unfold eb;rw[B3 h]
 cases dark a<;>rfl
theorem sg_par(x b y:Int):sg (x,y)=if (x - b) % 2=0 then sg (b,y) else - sg (b,y):=by
 unfold sg dark;dsimp only;rw[dy _ (by decide),dy _ (by decide)]
 by_cases q:(x - b) % 2=0
 .rw[if_pos q,G4 x b y,q,cJ,Int.emod_emod]
 .rw[if_neg q]
  rcases Int.emod_two_eq (b+y)with e|e
  .rw[G4 x b y,DS q,e];rfl
  .rw[G4 x b y,DS q,e];rfl
noncomputable def flA(b:Int->Int):Nat->Int
 |0=>0
 |n+1=>flA b n+2 * sg (b n,n)
noncomputable def flH(b:Int->Int)(k:Sp):Int:=flA b k.2.toNat+eb k
theorem fl_mt(d:∀k∈P,flM b k∈P):Mt P (flM b):=λk B=>by
 have Y:=d k B;obtain⟨x,y⟩:=k;unfold flM at Y ⊢;dsimp only at Y ⊢
 by_cases q:(x - b y) % 2=0
 .rw[if_pos q]at Y ⊢
  rw[if_neg (DC q)];exact⟨nbP_mem.mpr ⟨B,AI .r,Y⟩,bX (bI _ _) rfl⟩
 .rw[if_neg q]at Y ⊢
  rw[if_pos (HQ q)];exact⟨nbP_mem.mpr ⟨B,AI .l,Y⟩,bX (aN _ _) rfl⟩
theorem fl_up(u:0<=y):flA b (y+1).toNat=flA b y.toNat+2 * sg (b y,y):=by
 refine X1l y (cF u) λn=>?_
 rfl
theorem fl_ht(h0:∀k∈P,0<=k.2)(T:∀k∈P,flM b k∈P):HT P (flM b) (flH b):=by
 refine⟨λx y q=>?_,λx y q=>?_⟩
 .unfold stp
  rw[if_neg]
  .have U:eb (x+1,y)=-1 - eb (x,y):=Hp (AI .r)
   have e2:eb (x,y - 1)=-1 - eb (x,y):=Hp (AI .u);have B:=sg_eb (x,y - 1);show flA b y.toNat+eb (x+1,y) - (flA b y.toNat+eb (x,y))=_;clear h0 T q;exact af (lin [] [eb (x+1,y),eb (x,y),eb (x,y - 1),sg (x,y - 1),flA b y.toNat] (.f (.S (.A V4 V0) (.A V4 V1)) V3) [.h V0 (.S Km1 V1),.H (-2) V2 (.S Km1 V1),.H (-1) V3 (.A (.M 2 V2) K1)] rfl U e2 B) (lin [] [eb (x+1,y),eb (x,y),eb (x,y - 1),sg (x,y - 1),flA b y.toNat] (.f V3 (.S (.A V4 V0) (.A V4 V1))) [.H (-1) V0 (.S Km1 V1),.H 2 V2 (.S Km1 V1),.h V3 (.A (.M 2 V2) K1)] rfl U e2 B)
  .refine λY=>An Y λZ e=>?_
   have:y - 1=y:=by
    have:=congrArg eu e
    unfold flM at this
    split at this<;>exact this
   clear h0 T q e;exact lin [] [y] .no [.H (-1) (.S V0 K1) V0] rfl this
 .have y0:0<=y:=q.elim (h0 _) (h0 _)
  have up:=fl_up (b:=b) y0;have U:eb (x,y+1)=-1 - eb (x,y):=Hp (AI .d);have B:=sg_eb (x,y);have O:=sg_par x (b y) y;unfold stp;show flA b (y+1).toNat+eb (x,y+1) - (flA b y.toNat+eb (x,y))=_
  by_cases z:(x - b y) % 2=0
  .rw[if_pos z]at O
   have m:flM b (x,y)=(x+1,y):=if_pos z;rw[if_neg λw=>by
    have:x+1=x - 1:=congrArg dK (m.symm.trans w.2)
    clear h0 T q U B O up w;exact lin [] [x] .no [.h (.A V0 K1) (.S V0 K1)] rfl this]
   clear h0 T q m z;exact af (lin [] [flA b (y+1).toNat,flA b y.toNat,sg (b y,y),eb (x,y+1),eb (x,y),sg (x,y)] (.f (.S (.A V0 V3) (.A V1 V4)) V5) [.h V0 (.A V1 (.M 2 V2)),.h V3 (.S Km1 V4),.h V5 (.A (.M 2 V4) K1),.H (-2) V5 V2] rfl up U B O) (lin [] [flA b (y+1).toNat,flA b y.toNat,sg (b y,y),eb (x,y+1),eb (x,y),sg (x,y)] (.f V5 (.S (.A V0 V3) (.A V1 V4))) [.H (-1) V0 (.A V1 (.M 2 V2)),.H (-1) V3 (.S Km1 V4),.H (-1) V5 (.A (.M 2 V4) K1),.H 2 V5 V2] rfl up U B O)
  .rw[if_neg z]at O
   have m:flM b (x,y)=(x - 1,y):=if_neg z;rw[if_pos ⟨q.elim id λr=>by
    have:=T _ r
    unfold flM at this;rw[if_pos (HQ z)]at this
    rwa [show ((x - 1+1,y):Sp)=(x,y) by rw[aN]]at this,m⟩]
   clear h0 T q m z;exact af (lin [] [flA b (y+1).toNat,flA b y.toNat,sg (b y,y),eb (x,y+1),eb (x,y),sg (x,y)] (.f (.S (.A V0 V3) (.A V1 V4)) (.M (-3) V5)) [.h V0 (.A V1 (.M 2 V2)),.h V3 (.S Km1 V4),.h V5 (.A (.M 2 V4) K1),.H 2 V5 (.N V2)] rfl up U B O) (lin [] [flA b (y+1).toNat,flA b y.toNat,sg (b y,y),eb (x,y+1),eb (x,y),sg (x,y)] (.f (.M (-3) V5) (.S (.A V0 V3) (.A V1 V4))) [.H (-1) V0 (.A V1 (.M 2 V2)),.H (-1) V3 (.S Km1 V4),.H (-1) V5 (.A (.M 2 V4) K1),.H (-2) V5 (.N V2)] rfl up U B O)
end
section
def Eg(P:List Sp)(k c:Sp):Prop:=∃w l r,Hd k.1 k.2 w c l r/\(l∈P\/r∈P)
theorem A3(Y:k.1=c.1\/k.1=c.1+1)(z:k.2=c.2\/k.2=c.2+1):k∈Bt c:=by
 obtain⟨a,b⟩:=k;dsimp only at Y z
 rcases Y with rfl|rfl<;>rcases z with rfl|rfl
 .exact .head _
 .exact .tail _ (.tail _ (.head _))
 .exact .tail _ (.head _)
 .exact .tail _ (.tail _ (.tail _ (.head _)))
theorem Eg.in(B:Cor P C)(e:Eg P k c):c∈C:=by
 refine X3pp e λw l r y q=>?_
 have:c∈Bt l/\c∈Bt r:=by
  induction y using Hd.casesOn with|r=>exact⟨A3 (.inr rfl) (.inr (aN ..).symm),A3 (.inr rfl) (.inl rfl)⟩|d=>exact⟨A3 (.inl rfl) (.inr rfl),A3 (.inr (aN ..).symm) (.inr rfl)⟩|l=>exact⟨A3 (.inl rfl) (.inl rfl),A3 (.inl rfl) (.inr (aN ..).symm)⟩|u=>exact⟨A3 (.inr (aN ..).symm) (.inl rfl),A3 (.inl rfl) (.inl rfl)⟩
 exact(B.mem c).mpr (q.elim (λq=>⟨l,q,this.1⟩) λq=>⟨r,q,this.2⟩)
theorem Mp.corners{P C S:List Sp}{a:Sp}(H:Mp P a)(T:Cor P C)(ha:a∈P)(aS:a∈S)(cl:∀k∈S,∀c,Eg P k c->c∈S):∀k∈C,k∈S:=by
 have cells:∀k,Mj P a k->k∈P/\k∈S:=λk h=>by
  induction h with
  |refl=>exact⟨ha,aS⟩
  | @step b c _ z O y =>
   refine⟨O,cl b y.2 c ?_⟩
   cases DZ z with|u=>exact⟨_,_,_,.u,.inr O⟩|l=>exact⟨_,_,_,.l,.inl O⟩|r=>exact⟨_,_,_,.r,.inr y.1⟩|d=>exact⟨_,_,_,.d,.inl y.1⟩
 refine λk B=>X1pp ((T.mem k).mp B) λc Y B=>?_;have U:=(cells c (H c Y)).2;have rS:(c.1+1,c.2)∈S:=cl _ U _ ⟨_,_,_,.r,.inr Y⟩;have dS:(c.1,c.2+1)∈S:=cl _ U _ ⟨_,_,_,.d,.inl Y⟩;have bS:(c.1+1,c.2+1)∈S:=cl _ rS _ ⟨_,_,_,.d,.inr (by show (c.1+1 - 1,c.2)∈P;rwa [bI])⟩
 unfold Bt at B;simp only[az,bp,or_false]at B
 rcases B with rfl|rfl|rfl|rfl
 .exact U
 .exact rS
 .exact dS
 .exact bS
theorem Dfs.corners(h:Dfs (Eg P) (·∈C) a fs [])(H:Mp P a)(z:Cor P C)(ha:a∈P)(k:Sp):k∈fs↔k∈C :=
 ⟨h.rc k,H.corners z ha h.ha (λk B c e=>h.cl k B bp c e) k⟩
theorem ways_hd(h:w∈ways):∃l r,Hd x y w (x+w.1,y+w.2) l r:=by
 unfold ways at h;simp only[az,bp,or_false]at h
 rcases h with rfl|rfl|rfl|rfl
 .exact⟨_,_,(bX rfl (bB y).symm:((x+1,y):Sp)=(x+1,y+0))▸Hd.r⟩
 .exact⟨_,_,(bX (bB x).symm rfl:((x,y+1):Sp)=(x+0,y+1))▸Hd.d⟩
 .exact⟨_,_,(bX rfl (bB y).symm:((x - 1,y):Sp)=(x+-1,y+0))▸Hd.l⟩
 .exact⟨_,_,(bX (bB x).symm rfl:((x,y - 1):Sp)=(x+0,y+-1))▸Hd.u⟩
noncomputable def HS(b:Int):List Int->Bool
 |[]=>a6
 |x::r=>(match r with
  |[]=>a7
  |y::r=>((x - b) % 2 == 0) && ((y == x+1) && HS b r))
theorem CD(h:HS b (x::y::r)=a6):(x - b) % 2=0/\y=x+1/\HS b r=a6:=by
 have h:(((x - b) % 2 == 0) && ((y == x+1) && HS b r))=a6:=h;exact An (aO.mp h) λO h=>An (aO.mp h) λz Y=>⟨eq_of_beq O,eq_of_beq z,Y⟩
theorem Ki:∀{xs:List Int},HS b xs=a6->∀x∈xs,(if (x - b) % 2=0 then x+1 else x - 1)∈xs
 |[],_,x,h=>by exact nM h
 |[_],h,_,_=>by exact nF h
 |u::v::r,h,x,d=>by
  refine Bo (CD h) λY O U=>?_;clear h;subst O;refine KI x d ?_ λd=>?_
  .rw[if_pos Y];exact .tail _ (.head _)
  ·
   refine KI x d ?_ λd=>?_
   .rw[if_neg (DC Y),bI];exact .head _
   .exact .tail _ (.tail _ (Ki U x d))
theorem HR:∀{xs:List Int},HS b xs=a6->∃h,xs.length=2 * h
 |[],_=>⟨0,rfl⟩
 |[_],h=>by exact nF h
 |u::v::r,h=>by
  exact X1p (HR (CD h).2.2) λn e=>⟨n+1,by rw[aL,aL,e];exact aq (lin [n] [] (.b (.A (.A (.M 2 V0) K1) K1) (.M 2 (.A V0 K1))) [] rfl) (lin [n] [] (.b (.M 2 (.A V0 K1)) (.A (.A (.M 2 V0) K1) K1)) [] rfl)⟩
theorem par_at:∀{xs:List Int}{i:Nat},HS b xs=a6->2 * i<xs.length->∃u,xs[2 * i]?=a0 u/\xs[2 * i+1]?=a0 (u+1)/\(u - b) % 2=0/\xs.take (2 * (i+1))=xs.take (2 * i)++[u,u+1]
 |[],i,_,h=>absurd h (ej _)
 |[_],_,h,_=>by exact nF h
 |u::v::r,0,h,_=>by
  refine Bo (CD h) λY d U=>?_;clear h;subst d;exact⟨u,rfl,rfl,Y,rfl⟩
 |u::v::r,i+1,h,hl=>by
  refine X1pppp (par_at (i:=i) (CD h).2.2 (by rw[aL,aL]at hl;exact lin [i,r.length] [] (.c (.M 2 V0) V1) [.c (.M 2 (.A V0 K1)) (.A (.A V1 K1) K1)] rfl hl)) λz Y O U y=>⟨z,Y,O,U,?_⟩
  show u::v::r.take (2 * (i+1))=(u::v::r.take (2 * i))++_;rw[y];rfl
theorem par_ivs(b:Int):∀n:Nat,HS b (ivs b (2 * n))=a6:=by
 have Y:∀(n:Nat)(x:Int),(x - b) % 2=0->HS b (ivs x (2 * n))=a6:=λn=>by
  induction n with
  |zero=>exact λZ Z=>rfl
  |succ n y =>
   intro x h;have e:ivs x (2 * (n+1))=x::(x+1)::ivs (x+1+1) (2 * n):=rfl;rw[e];exact aO.mpr ⟨beq_iff_eq.mpr h,aO.mpr ⟨beq_self_eq_true _,y (x+1+1) (par_add2 h)⟩⟩
 exact λn=>Y n b (by rw[iM];rfl)
noncomputable def Dd(P:List Sp)(m:Sp->Sp):List (Sp×Sp):=(P.filter λc=>FV c (m c)).map λc=>(c,m c)
structure Hand(P:List Sp)(m:Sp->Sp)(H:List (Sp×Sp)):Prop where
 at_:∀q∈H,q.1∈P/\q.2=m q.1
 nd:(covL H).Nodup
 mem:∀k,k∈covL H↔k∈P
theorem Mt.ord(M:Mt P m)(u:x∈P):FV x (m x)=a6\/FV (m x) x=a6 :=
 ordB_tot λe=>by
  have:=B3 (nbP_mem.mp (M x u).1).2.1
  rw[<- e]at this
  cases q:dark x<;>rw[q]at this<;>cases this
theorem Mt.lay(M:Mt P m)(y:P.Nodup):Hand P m (Dd P m):=by
 have at_:∀q∈Dd P m,q.1∈P/\q.2=m q.1:=λq hq=>by
  exact X1pr q (aJ.mp hq) λc d=>⟨(cA.mp d).1,rfl⟩
 refine⟨at_,Gz (y.filter _) λa ha=>?_,λk=>⟨λh=>?_,λh=>?_⟩⟩
 .exact An (cA.mp ha) λY z=>⟨z,(M a Y).2⟩
 .refine X1pp (dY.mp h) λq hq h=>An (at_ q hq) λY z=>KI k h ?_ λh=>?_
  .exact Y
  ·
   refine KI k h ?_ λh=>?_
   .rw[z];exact(nbP_mem.mp (M _ Y).1).2.2
   .exact nM h
 .refine dY.mpr ?_
  rcases M.ord h with o|o
  .exact⟨(k,m k),aJ.mpr ⟨k,cA.mpr ⟨h,o⟩,rfl⟩,.head _⟩
  .have h':=M k h
   exact⟨(m k,m (m k)),aJ.mpr ⟨m k,cA.mpr ⟨(nbP_mem.mp h'.1).2.2,by rwa [h'.2]⟩,rfl⟩,by rw[h'.2];exact .tail _ (.head _)⟩
end
section
noncomputable def E4:At:=⟨[0xe600066000378001cc000e000064,536561879875704,121,122],2,[.assign (.tup [.v 2,.v 3]) (.v 0),.ite (.cmp .Eq (.v 1) (.str "right")) [.ret (.tup [.tup [.v 2,.bin .Sub (.v 3) (.int 1)],.tup [.v 2,.v 3]])] [],.ret (.tup [.tup [.v 2,.v 3],.tup [.bin .Sub (.v 2) (.int 1),.v 3]])]⟩
noncomputable def EZ:At:=⟨[0x73000380001c0000da00067,0x65000378001d8000e000067,0xe600066000378001cc000e000064,536561879875704,0x36800188000e000068,0x3a80019c000cc0006d,0x75000348001a0000d400073,0x74000330001d0000d400073],1,[.assign (.v 1) (.mu 4 (.list [])),.for_ (.v 2) (.meth (.v 0) 18 []) [.for_ (.tup [.v 3,.v 4]) (.tup [.tup [.str "right",.tup [.bin .Add (.sub (.v 2) (.int 0)) (.int 1),.sub (.v 2) (.int 1)]],.tup [.str "down",.tup [.sub (.v 2) (.int 0),.bin .Add (.sub (.v 2) (.int 1)) (.int 1)]]]) [.assign (.tup [.v 5,.v 6]) (.call (.g 44) [.v 2,.v 3]),.ite (.or [.meth (.v 0) 15 [.v 5],.meth (.v 0) 15 [.v 6]]) [.assign (.v 7) (.or [.and [.meth (.v 0) 15 [.v 5],.call (.g 33) [.v 5]],.and [.meth (.v 0) 15 [.v 6],.not (.call (.g 33) [.v 6])]]),.expr (.meth (.v 1) 0 [.tup [.v 2,.v 4,.v 5,.v 6,.ite (.v 7) (.int 1) (.neg (.int 1))]])] []]],.ret (.v 1)]⟩
noncomputable def Co:At:=⟨[0x73000380001c0000da00067],1,[.ret (.sub (.meth (.v 0) 16 []) (.int 0))]⟩
noncomputable def CZ:At:=⟨[0x740003c0001c0000e6000600003c000188000da00060,0x3a8001a4000d00006a000398001c4000ec000600003c000188000da00060,0xe80007300035000188000e2000600003c000188000da00060,0xf4000600003c000188000da00060,0x1d0000f2000600003c000188000da00060,0xf2000600003c000188000da00060,0xd8000600003c000188000da00060,0x330001bc000e0000600003c000188000da00060,0xe600066000348001d4000e0000600003c000188000da00060],2,[.assign (.v 2) (.mu 4 (.dict [] [])),.for_ (.v 3) (.call (.g 8) [.call (.g 0) [.v 0]]) [.assign (.v 4) (.comp (.v 5) 5 (.call (.g 8) [.call (.g 0) [.sub (.v 0) (.v 3)]]) [.cmp .Eq (.sub (.sub (.v 0) (.v 3)) (.v 5)) (.str "#")]),.for_ (.v 6) (.call (.g 8) [.int 0,.call (.g 0) [.v 4],.int 2]) [.assign (.tup [.v 7,.v 8]) (.tup [.tup [.sub (.v 4) (.v 6),.v 3],.tup [.sub (.v 4) (.bin .Add (.v 6) (.int 1)),.v 3]]),.ite (.v 1) [.assign (.tup [.v 7,.v 8]) (.tup [.tup [.v 3,.sub (.v 4) (.v 6)],.tup [.v 3,.sub (.v 4) (.bin .Add (.v 6) (.int 1))]])] [],.setitem (.v 2) (.v 7) (.v 8),.setitem (.v 2) (.v 8) (.v 7)]],.ret (.v 2)]⟩
noncomputable def c_lturn:At:=⟨[0xe80007300035000188000e2000600003c000188000da00060,0x1cc000cc0006f000398001c0000c8000600003c000188000da00060,0xf2000600003c000188000da00060,0xf4000600003c000188000da00060,0x330001bc000e0000600003c000188000da00060,0x380001e0000ea000600003c000188000da00060,0xcc00066000398001a4000ea000600003c000188000da00060,0x730003b0001c0000ce000600003c000188000da00060,0x66000370001c0000e8000600003c000188000da00060,0x6d00036800198000c8000600003c000188000da00060,0xe600066000348001d4000e0000600003c000188000da00060],2,[.assign (.tup [.v 2,.v 3]) (.v 1),.assign (.tup [.v 4,.v 5,.v 6,.v 7]) (.tup [.tup [.bin .Sub (.v 2) (.int 1),.bin .Sub (.v 3) (.int 1)],.tup [.v 2,.bin .Sub (.v 3) (.int 1)],.tup [.bin .Sub (.v 2) (.int 1),.v 3],.tup [.v 2,.v 3]]),.ite (.and [.cmp .Eq (.meth (.v 0) 6 [.v 4]) (.v 5),.cmp .Eq (.meth (.v 0) 6 [.v 6]) (.v 7)]) [.assign (.v 8) (.list [.tup [.v 4,.v 6],.tup [.v 5,.v 7]])] [.ite (.and [.cmp .Eq (.meth (.v 0) 6 [.v 4]) (.v 6),.cmp .Eq (.meth (.v 0) 6 [.v 5]) (.v 7)]) [.assign (.v 8) (.list [.tup [.v 4,.v 5],.tup [.v 6,.v 7]])] [.ret (.bool a7)]],.for_ (.tup [.v 9,.v 10]) (.v 8) [.setitem (.v 0) (.v 9) (.v 10),.setitem (.v 0) (.v 10) (.v 9)],.ret (.bool a6)]⟩
noncomputable def Cn:At:=⟨[0xe80007300035000188000e2000600003c000188000da00060,0x1cc000cc00063000370001d8000de000600003c000188000da00060,0x7a00037800188000dc000600003c000188000da00060,0xca0006f0003b0001c0000ce000600003c000188000da00060,0xd8000600003c000188000da00060],3,[.assign (.v 3) (.mu 4 (.call (.g 7) [.v 0])),.for_ (.v 4) (.call (.g 8) [.v 2]) [.assign (.v 1) (.call (.g 73) [.v 1,.v 4]),.expr (.call (.g 86) [.v 3,.tup [.bin .Mod (.v 1) (.int 7),.bin .Mod (.bin .FloorDiv (.v 1) (.int 7)) (.int 7)]])],.ret (.v 3)]⟩
noncomputable def c_lfloor_by:At:=⟨[0x1d4000e20006a00039800190000e8000600003c000188000da00060,0x6d00036800198000c8000600003c000188000da00060,0x740003c0001c0000e6000600003c000188000da00060,0x3a8001a4000d00006a000398001c4000ec000600003c000188000da00060,0xe80007300035000188000e2000600003c000188000da00060],1,[.assign (.v 1) (.call (.g 72) [.v 0,.int 0]),.assign (.v 2) (.call (.g 75) [.v 1,.call (.g 72) [.v 0,.int 1],.bool a6]),.ite (.cmp .Eq (.bin .Mod (.v 1) (.int 7)) (.int 6)) [.assign (.v 2) (.sub (.list [.list [.str "##..##",.str "##..##",.str "######"],.list [.str "######",.str "....##",.str "##..##",.str "##..##",.str "######"],.list [.str "##..##",.str "######",.str "##..##",.str "##..##"],.list [.str "##..##",.str "##..##",.str "######",.str "##..##",.str "##..##"]]) (.bin .Mod (.bin .FloorDiv (.v 1) (.int 7)) (.int 4)))] [],.assign (.v 3) (.cmp .Eq (.bin .Mod (.bin .FloorDiv (.v 1) (.int 30)) (.int 2)) (.int 1)),.assign (.v 4) (.call (.g 85) [.v 2,.v 3]),.ite (.v 3) [.assign (.v 2) (.call (.g 74) [.v 2])] [],.ret (.tup [.v 2,.v 4])]⟩
noncomputable def LV:At:=⟨[0xe80007300035000188000e2000600003c000188000da00060,0xca0006f0003b0001c0000ce000600003c000188000da00060,0x6d00036800198000c8000600003c000188000da00060],1,[.assign (.v 1) (.comp (.tup [.v 2,.sub (.v 0) (.v 2)]) 2 (.v 0) [.cmp .Lt (.call (.g 89) [.v 2]) (.call (.g 89) [.sub (.v 0) (.v 2)])]),.ret (.mu 4 (.sorted (.v 1) (.g 91)))]⟩
noncomputable def IC:At:=⟨[0xcc00064000330001a8000e2000600003c000188000da00060],1,[.ret (.call (.g 89) [.sub (.v 0) (.int 0)])]⟩
noncomputable def c_lstep:At:=⟨[0xe80007300035000188000e2000600003c000188000da00060,0x1cc000cc0006f000398001c0000c8000600003c000188000da00060,0x3d000188000f0000600003c000188000da00060,0xf2000600003c000188000da00060,0xf4000600003c000188000da00060,0x7500033800198000da000600003c000188000da00060,0xea00069000340001a8000e6000600003c000188000da00060,0x6c00039800188000ca000600003c000188000da00060,0xcc00073000330001a4000c000071000330001d4000e8000600003c000188000da00060],3,[.assign (.tup [.v 3,.v 4]) (.v 1),.assign (.tup [.v 5,.v 6]) (.sub (.dict [.tup [.int 1,.int 0],.tup [.int 0,.int 1],.tup [.neg (.int 1),.int 0],.tup [.int 0,.neg (.int 1)]] [.tup [.tup [.v 3,.bin .Sub (.v 4) (.int 1)],.tup [.v 3,.v 4]],.tup [.tup [.v 3,.v 4],.tup [.bin .Sub (.v 3) (.int 1),.v 4]],.tup [.tup [.bin .Sub (.v 3) (.int 1),.v 4],.tup [.bin .Sub (.v 3) (.int 1),.bin .Sub (.v 4) (.int 1)]],.tup [.tup [.bin .Sub (.v 3) (.int 1),.bin .Sub (.v 4) (.int 1)],.tup [.v 3,.bin .Sub (.v 4) (.int 1)]]]) (.v 2)),.ite (.and [.cmp .NotIn (.v 5) (.v 0),.cmp .NotIn (.v 6) (.v 0)]) [.ret .none] [],.assign (.v 7) (.ite (.cmp .In (.v 5) (.v 0)) (.cmp .Eq (.bin .Mod (.call (.g 11) [.v 5]) (.int 2)) (.int 0)) (.cmp .Eq (.bin .Mod (.call (.g 11) [.v 6]) (.int 2)) (.int 1))),.assign (.v 8) (.ite (.v 7) (.int 1) (.neg (.int 1))),.ret (.ite (.and [.cmp .In (.v 5) (.v 0),.cmp .Eq (.sub (.v 0) (.v 5)) (.v 6)]) (.bin .Mult (.neg (.int 3)) (.v 8)) (.v 8))]⟩
noncomputable def c_lnumbers:At:=⟨[0xe80007300035000188000e2000600003c000188000da00060,0xea00073000310001d4000e8000600003c000188000da00060,0x6600039800198000d2000600003a0001cc000cc00063000370001d8000de000600003c000188000da00060,0x340001bc000d40007500035000188000f0000600003c000188000da00060,0x1cc000cc0006f000398001c0000c8000600003c000188000da00060,0x3d000188000f0000600003c000188000da00060,0xe600066000348001d4000e0000600003c000188000da00060,0xcc00073000330001a4000c000071000330001d4000e8000600003c000188000da00060],1,[.assign (.v 1) (.sub (.sorted (.call (.g 5) [.v 0]) (.g 89)) (.int 0)),.assign (.v 2) (.mu 4 (.dict [.v 1] [.int 0])),.assign (.v 3) (.mu 5 (.list [.v 1])),.while_ (.cmp .NotEq (.v 3) (.list [])) [.assign (.v 4) (.meth (.v 3) 1 []),.for_ (.v 5) (.list [.tup [.int 1,.int 0],.tup [.int 0,.int 1],.tup [.neg (.int 1),.int 0],.tup [.int 0,.neg (.int 1)]]) [.assign (.v 6) (.tup [.bin .Add (.sub (.v 4) (.int 0)) (.sub (.v 5) (.int 0)),.bin .Add (.sub (.v 4) (.int 1)) (.sub (.v 5) (.int 1))]),.assign (.v 7) (.call (.g 104) [.v 0,.v 4,.v 5]),.ite (.and [.cmp .IsNot (.v 7) .none,.cmp .NotIn (.v 6) (.v 2)]) [.setitem (.v 2) (.v 6) (.bin .Add (.sub (.v 2) (.v 4)) (.v 7)),.expr (.meth (.v 3) 0 [.v 6])] []]],.ret (.v 2)]⟩
noncomputable def fD(f:Ah->AV)(l:List Ah):List (Ah×AV):=l.map λp=>(p,f p)
theorem Hw(f:Ah->AV)(l:List Ah)(k:Ah):A2 (fD f l) k=if k∈l then a0 (f k) else aa:=by
 induction l with
 |nil=>rfl
 |cons x r y =>
  show (((x,f x)::fD f r).find? λz=>decide (z.1=k)).map (·.2)=_
  by_cases e:x=k
  .clear y;subst e
   rw[List.find?_cons_of_pos (p:=λz:Ah×AV=>decide (z.1=x)) (decide_eq_true rfl),if_pos (.head _)];rfl
  .rw[List.find?_cons_of_neg (p:=λz:Ah×AV=>decide (z.1=k)) (λz=>e (of_decide_eq_true z))]
   refine Eq.trans y ?_
   by_cases h:k∈r
   .rw[if_pos h,if_pos (.tail _ h)]
   .rw[if_neg h,if_neg λz=>(az.mp z).elim (λw=>e w.symm) h]
theorem EP(f:Ah->AV)(l:List Ah)(k:Ah):(A2 (fD f l) k).isSome=decide (k∈l):=by
 rw[Hw]
 by_cases h:k∈l
 .rw[if_pos h,decide_eq_true h];rfl
 .rw[if_neg h,decide_eq_false h];rfl
theorem Jk(h:k∈l):(A2 (fD f l) k).isSome=a6:=(EP f l k).trans (decide_eq_true h)
theorem DT(h:k∉l):(A2 (fD f l) k).isSome=a7:=(EP f l k).trans (decide_eq_false h)
theorem Ep(h:k∈l):A2 (fD f l) k=a0 (f k):=(Hw f l k).trans (if_pos h)
theorem Iq(h:k∉l)(e:x=f k):Bs (fD f l) k x=fD f (l++[k]):=by
 unfold Bs;rw[EP,decide_eq_false h,if_neg aQ,e];unfold fD;rw[a9];rfl
theorem FI(h:k∈l):Bs (fD f l) k x=fD (λj=>if j=k then x else f j) l:=by
 unfold Bs;rw[EP,decide_eq_true h,if_pos rfl];unfold fD;rw[aV];refine b4 λj Z=>?_;show (if j=k then (k,x) else (j,f j))=(j,if j=k then x else f j)
 by_cases e:j=k
 .rw[if_pos e,if_pos e,e]
 .rw[if_neg e,if_neg e]
theorem Bw(f:Ah->AV)(l:List Ah):(fD f l).length=l.length:=aj _
theorem Im(h:∀k∈l,f k=g k):fD f l=fD g l:=b4 λk B=>bX rfl (h k B)
noncomputable def spm(m:Sp->Sp)(k:Ah):AV:=sp (m k)
theorem Fw(h:s.Nodup):(Ey s k).Nodup:=by
 unfold Ey
 by_cases q:k∈s
 .rwa [if_pos q]
 .rw[if_neg q];exact IW h q
theorem CR(e:x=f k):Bs (fD f l) k x=fD f (Ey l k):=by
 unfold Ey
 by_cases q:k∈l
 .rw[if_pos q,FI q]
  exact Im λj Z=>by
   by_cases z:j=k
   .rw[if_pos z,e,z]
   .rw[if_neg z]
 .rw[if_neg q,Iq q e]
end
section
noncomputable def Ej:At:=⟨[0x73000380001c0000da00067,0x3a0001cc000cc0006f0003a8001cc000c400071,0x65000378001d8000e000067,0x368001b4000cc00064],2,[.assign (.v 2) (.mu 4 (.list [])),.for_ (.v 3) (.meth (.v 0) 16 []) [.ite (.cmp .Lt (.call (.g 32) [.v 3]) (.call (.g 32) [.sub (.v 1) (.v 3)])) [.expr (.meth (.v 2) 0 [.tup [.v 3,.sub (.v 1) (.v 3)]])] []],.ret (.v 2)]⟩
end
section
structure Lyd(P Ks:List Sp)(m:Sp->Sp)(h:Sp->Int):Prop where
 nd:Ks.Nodup
 mem:∀k,k∈Ks↔k∈P
 mt:Mt P m
 ht:HT P m h
noncomputable def JA(r:List Bool):List Int:=(ivs 0 r.length).filter λx=>r.getD (x - 0).toNat a7
theorem xsOf_mem:x∈JA r↔bit r x:=by
 have h:=rowC_mem (y:=0) (k:=(x,0)) (r:=r) (x:=0);rw[Cs]at h;rw[fR]at h;refine Iff.trans ⟨λq=>cQ q,λq=>(X1pp (aJ.mp q) λz hz e=>?_)⟩ (h.trans (and_iff_right rfl))
 cases e;exact hz
def Par(G:Gr)(β:Int->Int):Prop:=∀(y:Nat) r,G[y]?=a0 r->HS (β y) (JA r)=a6
theorem Par.cl(p:Par G β):∀k∈Ae G,flM β k∈Ae G:=λk B=>by
 refine An (cellsOf_mem.mp B) λh0 u=>X1pp u λr y z=>?_
 have:=Ki (p _ r y) k.1 (xsOf_mem.mpr z)
 rw[an h0]at this;unfold flM
 by_cases q:(k.1 - β k.2) % 2=0
 .rw[if_pos q]at this ⊢
  exact cellsOf_mem.mpr ⟨h0,r,y,xsOf_mem.mp this⟩
 .rw[if_neg q]at this ⊢
  exact cellsOf_mem.mpr ⟨h0,r,y,xsOf_mem.mp this⟩
structure Lay(G:Gr)(w:Nat):Prop where
 f:Flo G w
 ft:Flo (trG G w) G.length
 p:∃β,Par G β
theorem II(h:p.1+p.2<=w):JA (AE w p)=ivs p.1 p.2:=by
 have up:∀{l:List Int},l.Pairwise (·<·)->l.Nodup:=λh=>h.imp Int.ne_of_lt;have B:(JA (AE w p)).Pairwise (·<·):=ivs_up.filter _;have U:(ivs p.1 p.2).Pairwise (·<·):=ivs_up;refine List.Perm.eq_of_pairwise (le:=(·<·)) (λa b Z Z Y z=>by exact af (lin [] [a,b] (.f V0 V1) [.g V0 V1] rfl Y) (lin [] [b,a] (.f V0 V1) [.g V0 V1] rfl z)) B U ((List.perm_ext_iff_of_nodup (up B) (up U)).mpr λx=>?_)
 rw[xsOf_mem,Em h,ivs_mem]
theorem IN(st:Mq a6 w L):Par (L.map (AE w)) λy=>((L[y.toNat]?).getD (0,0)).1:=λy r z=>by
 rw[aM]at z;refine X1pr r (aX.mp z) λp u=>?_;have ok:=st.ok p (ah u);rw[II ok.2.1];show HS (((L[(y:Int).toNat]?).getD (0,0)).1:Nat) (ivs p.1 p.2)=a6;rw[b7,u];show HS p.1 (ivs p.1 p.2)=a6;obtain⟨n,e⟩:∃n,p.2=2 * n:=⟨p.2 / 2,by have:=ok.2.2 rfl;exact aq (lin [p.snd % 2,p.snd / 2,p.snd] [] (.b V2 (.M 2 V1)) [.d V0 K0,.D (-1) (.A (.M 2 V1) V0) V2] rfl this (Nat.div_add_mod p.snd 2)) (lin [p.snd / 2,p.snd % 2,p.snd] [] (.b (.M 2 V0) V2) [.d (.A (.M 2 V0) V1) V2] rfl (Nat.div_add_mod p.snd 2))⟩
 rw[e];exact par_ivs _ n
theorem IO(u:2<=w)(y:w<=6)(Y:1<=L.length)(O:L.length<=6)(st:Mq a6 w L):Lay (L.map (AE w)) w:=by
 have f:=IP u y Y O st;refine⟨f,tr_flo f.g ?_ (Cx st) λk B=>?_,_,IN st⟩
 .refine X2pp f.ne λa U e Z=>?_
  rw[e];exact List.cons_ne_nil _ _
 .rw[aj]at B ⊢
  exact EG st B
noncomputable def layB(G:Gr)(w:Nat):Bool:=floB G w && (floB (trG G w) G.length && G.all λr=>HS 0 (JA r))
theorem Lay.ofB(h:layB G w=a6):Lay G w:=by
 unfold layB at h;exact An (aO.mp h) λO h=>An (aO.mp h) λT Y=>⟨Flo.ofB O,Flo.ofB T,λZ=>0,λy r z=>cB.mp Y r (ah z)⟩
noncomputable def fixE:Gr:=gOf ["##..##", "##..##", "######"]
noncomputable def fixF:Gr:=gOf ["######", "....##", "##..##", "##..##", "######"]
noncomputable def fixG:Gr:=gOf ["##..##", "######", "##..##", "##..##"]
noncomputable def fixH:Gr:=gOf ["##..##", "##..##", "######", "##..##", "##..##"]
theorem fixE_ok:Lay fixE 6:=Lay.ofB (by decide +kernel)
theorem fixF_ok:Lay fixF 6:=Lay.ofB (by decide +kernel)
theorem fixG_ok:Lay fixG 6:=Lay.ofB (by decide +kernel)
theorem fixH_ok:Lay fixH 6:=Lay.ofB (by decide +kernel)
theorem fixE_lit:(["##..##", "##..##", "######"].map λs=>AV.str (ct s))=AA fixE:=DH (by decide +kernel)
theorem fixF_lit:(["######", "....##", "##..##", "##..##", "######"].map λs=>AV.str (ct s))=AA fixF:=DH (by decide +kernel)
theorem fixG_lit:(["##..##", "######", "##..##", "##..##"].map λs=>AV.str (ct s))=AA fixG:=DH (by decide +kernel)
theorem fixH_lit:(["##..##", "##..##", "######", "##..##", "##..##"].map λs=>AV.str (ct s))=AA fixH:=DH (by decide +kernel)
theorem rng2:∀{h:Nat},h<=3->cC 0 ((2 * h:Nat):Int) 2=a6/\A1 0 2 (Bd 0 ((2 * h:Nat):Int) 2)=(bq h).map λi:Nat=>AV.int (2 * (i:Int))
 |0,_=>⟨by decide +kernel,rfl⟩
 |1,_=>⟨by decide +kernel,rfl⟩
 |2,_=>⟨by decide +kernel,rfl⟩
 |3,_=>⟨by decide +kernel,rfl⟩
 |h+4,q=>absurd q (Nat.not_le_of_gt (Nat.lt_of_lt_of_le (by decide) (Nat.le_add_left 4 h)))
noncomputable def tw:Bool->Sp->Sp
 |true,k=>sw k
 |false,k=>k
theorem IJ(b:Bool)(k:Sp):tw b (tw b k)=k:=by cases b<;>rfl
noncomputable def tm(b:Bool)(β:Int->Int)(k:Sp):Sp:=tw b (flM β (tw b k))
theorem tm_one(h:(u - β y) % 2=0):tm b β (tw b (u,y))=tw b (u+1,y):=by
 unfold tm flM;rw[IJ];exact congrArg (tw b) (if_pos h)
theorem tm_two(h:(u - β y) % 2=0):tm b β (tw b (u+1,y))=tw b (u,y):=by
 unfold tm flM;rw[IJ];exact congrArg (tw b) ((if_neg (DC h)).trans (bX (bI ..) rfl))
inductive QK(avs:List AV)(V:LS)(K:KR):Prop
 |mk (G:Gr)(w:_)(b:_)(β:Int->Int)(c0:avs=[.list (AA G),.bool b])(c1:V=[])(c2:(Mr G w/\Par G β))(c3:∀Ks,Ks.Nodup->(∀k,k∈Ks↔tw b k∈Ae G)->K ⟨[.dict (fD (spm (tm b β)) Ks)],.new 0⟩ []):QK avs V K
noncomputable def fPairs:FS:=specF λavs V K Z=>QK avs V K
noncomputable def pfM(G:Gr)(b:Bool)(f:bg)(x3 x4 x5 x6 x7 x8:Option AV):M:=[a0 (.list (AA G)),a0 (.bool b),a0 (.loc f 4),x3,x4,x5,x6,x7,x8]
noncomputable def pfS(f:bg)(D:List (Ah×AV)):LS:=[.no,.no,.no,.no,.at f (.dict D)]
inductive PfJ(G:Gr)(b:Bool)(β:Int->Int)(f:bg)(d r:List Int):M->LS->Prop
 |mk (x3 x4 x5 x6 x7 x8:Option AV)(Ks:List Sp)(D:List (Ah×AV))(hd:d++r=ivs 0 G.length)(nd:Ks.Nodup)(hm:∀k,k∈Ks↔tw b k∈Ae (G.take d.length))(eD:D=fD (spm (tm b β)) Ks):PfJ G b β f d r (pfM G b f x3 x4 x5 x6 x7 x8) (pfS f D)
inductive PfI(G:Gr)(b:Bool)(β:Int->Int)(f:bg)(y:Int)(xs:List Int)(h:Nat)(Q:List Sp)(d r:List Nat):M->LS->Prop
 |mk (x5 x6 x7 x8:Option AV)(Ks:List Sp)(D:List (Ah×AV))(hd:d++r=bq h)(nd:Ks.Nodup)(hm:∀k,k∈Ks↔tw b k∈Q\/∃x∈xs.take (2 * d.length),tw b k=(x,y))(eD:D=fD (spm (tm b β)) Ks):PfI G b β f y xs h Q d r (pfM G b f (a0 (.int y)) (a0 (.list (xs.map .int))) x5 x6 x7 x8) (pfS f D)
theorem range_at(e:d++i::r=bq h):i=d.length/\i<h:=by
 have:=congrArg (·[d.length]?) e
 simp only[bo (aB _),Nat.sub_self,fm]at this;obtain⟨Y,z⟩:=cL.mp this.symm;rw[ib]at Y;rw[List.getElem_range]at z;exact⟨aq (lin [d.length,i] [] (.b V1 V0) [.D (-1) V0 V1] rfl z) (lin [d.length,i] [] (.b V0 V1) [.d V0 V1] rfl z),lin [d.length,h,i] [] (.c V2 V1) [.c V0 V1,.D (-1) V0 V2] rfl Y z⟩
theorem pf_ite{xs:List Int}{x5 x7 d:Option AV}{V:LS}{X:XL}{KK:KS}(T:0<=z/\z<1000000)(B:0<=z+1/\z+1<1000000)(U:(xs.map AV.int)[z.toNat]?=a0 (.int u))(Y:(xs.map AV.int)[(z+1).toNat]?=a0 (.int (u+1)))
  (h:wpSs ⟨a6,[],[],[],[]⟩ [.setitem (.v 2) (.v 7) (.v 8),.setitem (.v 2) (.v 8) (.v 7)] X (pfM G b f (a0 (.int y)) (a0 (.list (xs.map .int))) x5 (a0 (.int z)) (a0 (sp (tw b (u,y)))) (a0 (sp (tw b (u+1,y))))) V KK) :
  wpSs ⟨a6,[],[],[],[]⟩ [.assign (.tup [.v 7,.v 8]) (.tup [.tup [.sub (.v 4) (.v 6),.v 3],.tup [.sub (.v 4) (.bin .Add (.v 6) (.int 1)),.v 3]]),.ite (.v 1) [.assign (.tup [.v 7,.v 8]) (.tup [.tup [.v 3,.sub (.v 4) (.v 6)],.tup [.v 3,.sub (.v 4) (.bin .Add (.v 6) (.int 1))]])] [],.setitem (.v 2) (.v 7) (.v 8),.setitem (.v 2) (.v 8) (.v 7)] X (pfM G b f (a0 (.int y)) (a0 (.list (xs.map .int))) x5 (a0 (.int z)) x7 d) V KK:=by
 cases b with|false=>exact⟨T,_,U,B,_,Y,h⟩|true=>exact⟨T,_,U,B,_,Y,T,_,U,B,_,Y,h⟩
theorem pf_mem{Ks Q:List Sp}{xs:List Int}{n:Nat}{u y:Int}(T:∀k,k∈Ks↔tw b k∈Q\/∃x∈xs.take (2 * n),tw b k=(x,y))(B:xs.take (2 * (n+1))=xs.take (2 * n)++[u,u+1])(k:Sp):k∈Ey (Ey Ks (tw b (u,y))) (tw b (u+1,y))↔tw b k∈Q\/∃x∈xs.take (2 * (n+1)),tw b k=(x,y):=by
 have tk:∀z:Sp,k=tw b z↔tw b k=z:=λz=>⟨λe=>by rw[e,IJ],λe=>by rw[<- e,IJ]⟩
 rw[insS_mem,insS_mem,T k,tk,tk,B]
 constructor
 .rintro (((h|⟨x,O,e⟩)|e)|e)
  .exact .inl h
  .exact .inr ⟨x,bA _ O,e⟩
  .exact .inr ⟨u,bF _ (.head _),e⟩
  .exact .inr ⟨u+1,bF _ (.tail _ (.head _)),e⟩
 .rintro (h|⟨x,O,e⟩)
  .exact .inl (.inl (.inl h))
  .rcases aK.mp O with O|O
   .exact .inl (.inl (.inr ⟨x,O,e⟩))
   .cases O with
    |head=>exact .inl (.inr e)
    |tail _ O =>
     cases O with|head=>exact .inr e|tail _ O=>exact nM O
theorem pf_len{Ks Q:List Sp}{xs:List Int}{n:Nat}{y:Int}(d:Ks.Nodup)(T:∀k,k∈Ks↔tw b k∈Q\/∃x∈xs.take (2 * n),tw b k=(x,y)):Ks.length<=Q.length+xs.length:=by
 have:=sub_length (k:=Q.map (tw b)++(xs.take (2 * n)).map λx=>tw b (x,y)) d λk B=>aK.mpr (((T k).mp B).imp (λz=>aJ.mpr ⟨_,z,IJ b k⟩) λ⟨x,hx,e⟩=>aJ.mpr ⟨x,hx,by rw[<- e,IJ]⟩)
 rw[ar,aj,aj,iB]at this;exact am this (Nat.add_le_add_left (iv _ _) _)
theorem insS_len(s:List Sp)(k:Sp):(Ey s k).length<=s.length+1:=by
 unfold Ey;split
 .exact hV _
 .rw[ar];exact aB _
theorem pf_in{Q:List Sp}{d r:List Nat}{m:M}{V:LS}{X:XL}{KK:KS}(hh:h<=3)(U:xs.length=2 * h)(pa:HS (β y) xs=a6)(hQ:Q.length<=36)(j:PfI G b β f y xs h Q d (i::r) m V)(C:M->LS->Prop)(hC:∀Ar Ab,PfI G b β f y xs h Q (d++[i]) r Ar Ab->C Ar Ab) :
  patW a6 (.v 6) (.int (2 * (i:Int))) m (λAo=>wpSs ⟨a6,[],[],[],[]⟩ [.assign (.tup [.v 7,.v 8]) (.tup [.tup [.sub (.v 4) (.v 6),.v 3],.tup [.sub (.v 4) (.bin .Add (.v 6) (.int 1)),.v 3]]),.ite (.v 1) [.assign (.tup [.v 7,.v 8]) (.tup [.tup [.v 3,.sub (.v 4) (.v 6)],.tup [.v 3,.sub (.v 4) (.bin .Add (.v 6) (.int 1))]])] [],.setitem (.v 2) (.v 7) (.v 8),.setitem (.v 2) (.v 8) (.v 7)] X Ao V (Fu aa V C KK)):=by
 induction j using PfI.casesOn with
 |mk x5 x6 x7 x8 Ks D hd O hm eD =>
  obtain⟨rfl,hi⟩:=range_at hd;have z:(d++[d.length])++r=bq h:=by rwa [aH]
  obtain⟨u,e1,e2,e3,e4⟩:=par_at (i:=d.length) pa (lin [xs.length,h,d.length] [] (.c (.M 2 V2) V0) [.D (-1) V0 (.M 2 V1),.C 2 V2 V1] rfl U hi);have b1:(0:Int)<=2 * (d.length:Int)/\2 * (d.length:Int)<1000000:=by exact⟨lin [d.length] [] (.f K0 (.M 2 (.c V0))) [] rfl,lin [h,d.length] [] (.g (.M 2 (.c V1)) Aw) [.B 2 V0 K3,.C 2 V1 V0] rfl hh hi⟩
  have b2:(0:Int)<=2 * (d.length:Int)+1/\2 * (d.length:Int)+1<1000000:=by exact⟨lin [d.length] [] (.f K0 (.A (.M 2 (.c V0)) K1)) [] rfl,lin [h,d.length] [] (.g (.A (.M 2 (.c V1)) K1) Aw) [.B 2 V0 K3,.C 2 V1 V0] rfl hh hi⟩
  have a1:(xs.map AV.int)[(2 * (d.length:Int)).toNat]?=a0 (.int u):=by
   rw[show (2 * (d.length:Int)).toNat=2 * d.length from rfl,aM,e1];rfl
  have a2:(xs.map AV.int)[(2 * (d.length:Int)+1).toNat]?=a0 (.int (u+1)):=by
   rw[show (2 * (d.length:Int)+1).toNat=2 * d.length+1 from rfl,aM,e2];rfl
  have Y:Ks.length<=42:=am (pf_len O hm) (lin [h,xs.length,Q.length] [] (.b (.A V2 V1) K42) [.B 2 V0 K3,.d V1 (.M 2 V0),.b V2 K36] rfl hh U hQ);have T:Bs D (tw b (u,y)) (sp (tw b (u+1,y)))=fD (spm (tm b β)) (Ey Ks (tw b (u,y))):=by
   rw[eD];exact CR (by unfold spm;rw[tm_one e3])
  have s2:Bs (Bs D (tw b (u,y)) (sp (tw b (u+1,y)))) (tw b (u+1,y)) (sp (tw b (u,y)))=fD (spm (tm b β)) (Ey (Ey Ks (tw b (u,y))) (tw b (u+1,y))):=by
   rw[T];exact CR (by unfold spm;rw[tm_two e3])
  have l2:(Bs D (tw b (u,y)) (sp (tw b (u+1,y)))).length<=big:=Aq (by
   rw[T,Bw];exact am (insS_len _ _) (lin [Ks.length] [] (.b (.A V0 K1) AD) [.b V0 K42] rfl Y))
  refine pf_ite b1 b2 a1 a2 ⟨rfl,Aq (by rw[eD,Bw];exact lin [Ks.length] [] (.b V0 AD) [.b V0 K42] rfl Y),rfl,l2,hC _ _ (.mk _ _ _ _ _ _ z (Fw (Fw O)) (λk=>?_) s2)⟩
  rw[ar,cD];exact pf_mem hm e4 k
theorem IK{G:Gr}{d:Nat}{u:List Bool}(h:G[d]?=a0 u):Ae (G.take (d+1))=Ae (G.take d)++(JA u).map λx=>(x,(d:Int)):=by
 have Y:=(cL.mp h).1;rw[List.take_add_one,h];show Ae (G.take d++[u])=_;unfold Ae;rw[Cv,Cs,iB,Nat.min_eq_left (cZ Y),cJ]
 rfl
theorem pairs_ok:Mh ⟨a6,[],[],[],[]⟩ CZ .new 7 5 fPairs:=by
 refine .specF λavs V K X h=>?_;obtain⟨G,w,b,β,rfl,rfl,⟨g,pa⟩,hK⟩:=h;have h6:=g.h6;have w6:=g.w6;refine⟨rfl,λf=>⟨Aq (CL g),DO (by rwa [CK]),AS (g:=.int) (rng_grid G) (PfJ G b β f) (λd m τ j=>?_) (λd y r m τ j C hC=>?_) (d:=[]) (.mk _ _ _ _ _ _ [] [] rfl .nil (λk=>⟨λz=>(nM z),λz=>(by cases z)⟩) rfl)⟩⟩
 .induction j using PfJ.casesOn with
  |mk x3 x4 x5 x6 x7 x8 Ks D hd nd hm eD =>
   rw[aF]at hd;rw[hd,AB,List.take_length]at hm;subst eD;exact⟨rfl,hK Ks nd hm⟩
 .induction j using PfJ.casesOn with
  |mk x3 x4 x5 x6 x7 x8 Ks D hd nd hm eD =>
   refine An (ivs_at hd) λhy T=>?_;obtain rfl:y=d.length:=by exact af (lin [d.length] [y] (.f V0 (.c V0)) [.h V0 (.A K0 (.c V0))] rfl hy) (lin [d.length] [y] (.f (.c V0) V0) [.H (-1) V0 (.A K0 (.c V0))] rfl hy)
   have er:G[d.length]?=a0 G[d.length]:=ax T;generalize G[d.length]=row at er;have lr:=g.len _ (ah er);have ea:(AA G)[(d.length:Int).toNat]?=a0 (.str (Ca row)):=by rw[b7];exact Lk er
   have bd:(0:Int)<=d.length/\(d.length:Int)<1000000:=by exact⟨lin [d.length] [] (.f K0 (.c V0)) [] rfl,lin [bW G,d.length] [] (.g (.c V1) Aw) [.b V0 K6,.c V1 V0] rfl h6 T⟩
   refine⟨bd,_,ea,Aq (by rw[A4];exact lin [w,row.length] [] (.b V1 AD) [.b V0 K6,.d V1 V0] rfl w6 lr),DO (by rw[A4];exact am (dJ lr) w6),⟨Aq (by rw[Fj,aj,AB,lr];exact am w6 (by decide)),GB (g:=.int) (f:=.int) (P:=λx=>row.getD (x - 0).toNat a7) (Fj _) (λx u ys C2 Y U=>?_) ?_⟩⟩
   .rw[ivs_mem]at u
    refine⟨bd,_,ea,⟨lin [] [x] (.f K0 V0) [.f K0 V0] rfl u.1,lin [w,row.length] [x] (.g V0 Aw) [.b V0 K6,.d V1 V0,.g V0 (.A K0 (.c V1))] rfl w6 lr u.2⟩,_,row_at (lin [row.length,x.toNat] [x] (.c V1 V0) [.g V0 (.A K0 (.c V0)),.h (.c V1) V0] rfl u.2 (an (lin [] [x] (.f K0 V0) [.f K0 V0] rfl u.1))),_,Lg _,?_⟩;rw[fR]at Y U;exact ifB Y U
   .have pr:=pa _ _ er
    refine X1p (HR pr) λh hh=>?_;have lx:(JA row).length<=6:=by
     have:=dA (λx=>row.getD (x - 0).toNat a7) (ivs 0 row.length)
     rw[AB]at this;exact am this (lin [w,row.length] [] (.b V1 K6) [.b V0 K6,.d V1 V0] rfl w6 lr)
    have h3:h<=3:=by exact lin [(JA row).length,h] [] (.B 2 V1 K3) [.D (-1) V0 (.M 2 V1),.b V0 K6] rfl hh lx
    have el:((JA row).map AV.int).length=2 * h:=by rw[aj,hh]
    refine An (rng2 h3) λs2 a2=>?_;have hQ:(Ae (G.take d.length)).length<=36:=by
     have:=Cf (w:=w) (G:=G.take d.length) (y:=0) λq hq=>g.len q (List.mem_of_mem_take hq)
     have h3:(G.take d.length).length * w<=6 * 6:=dZ (by rw[iB];exact lin [bW G,d.length,min d.length (bW G)] [] (.b V2 K6) [.b V0 K6,.c V1 V0,.b V2 V1] rfl h6 T (Nat.min_le_left d.length (bW G))) w6
     exact am this h3
    refine⟨Aq (show ((JA row).map AV.int).length<=1000 by exact lin [h,(List.map AV.int (JA row)).length] [] (.b V1 AD) [.B 2 V0 K3,.d V1 (.M 2 V0)] rfl h3 el),by decide,by decide,(congrArg (λn:Nat=>cC 0 n 2) el).trans s2,AS (g:=λi:Nat=>AV.int (2 * (i:Int))) ((congrArg (λn:Nat=>A1 0 2 (Bd 0 n 2)) el).trans a2) (PfI G b β f d.length (JA row) h (Ae (G.take d.length))) (λd' m τ j=>?_) (λd' i r m τ j C hC=>pf_in h3 hh pr hQ j C hC) (d:=[]) (.mk _ _ _ _ Ks D rfl nd (λk=>(hm k).trans ⟨.inl,λz=>z.elim id λ⟨x,z,_⟩=>by cases z⟩) eD)⟩
    induction j using PfI.casesOn with
    |mk x5 x6 x7 x8 Ks D O nd2 hm2 eD2 =>
     refine hC _ _ (.mk _ _ _ _ _ _ Ks D (by rw[aH];exact hd) nd2 (λk=>?_) eD2)
     rw[aF]at O;rw[hm2 k,O,ib,<- hh,List.take_length,ar,cD,IK er,aK,aJ];exact or_congr Iff.rfl ⟨λ⟨x,Y,U⟩=>⟨x,Y,U.symm⟩,λ⟨x,Y,U⟩=>⟨x,Y,U.symm⟩⟩
inductive QC(avs:List AV)(V:LS)(K:KR):Prop
 |mk (l:List Int)(c0:avs=[.nums l])(c1:V=[])(c2:l.length<=1000)(c3:∀G w Ks m h,Flo G w->Lyd (Ae G) Ks m h->K ⟨[],.val (.tup [.list (AA G),.dict (fD (spm m) Ks)])⟩ []):QC avs V K
noncomputable def Il:FS:=specF λavs V K Z=>QC avs V K
noncomputable abbrev tFb:Tab:=⟨a6,[],[(72,fAt),(75,Ly),(85,fPairs),(74,Lu)],[],[]⟩
theorem D9{l:List Int}{x:Int}{G:Gr}{K:KR}{X:XL}(h:Lay G w)(U:∀G w Ks m h,Flo G w->Lyd (Ae G) Ks m h->K ⟨[],.val (.tup [.list (AA G),.dict (fD (spm m) Ks)])⟩ []) :
  wpSs tFb (c_lfloor_by.body.drop 3) X [a0 (.nums l),a0 (.int x),a0 (.list (AA G)),aa,aa] [] (λfl Z τ=>CA .val 0 (flV fl) τ K):=by
 refine X1p h.p λβ Y=>?_;have g:=h.f.g;have mt:=fl_mt Y.cl;have ht:=fl_ht (b:=β) (λk B=>(g.in B).2.2.1) Y.cl;refine⟨G,w,_,β,rfl,rfl,⟨g,Y⟩,λKs y T=>?_⟩;generalize ((x.fdiv 30).fmod 2 == 1)=b at T ⊢
 cases b with|true=>exact⟨G,w,rfl,rfl,g,U _ _ Ks _ _ h.ft ⟨y,λk=>(T k).trans (Dm g).symm,mt.sw λk=>Dm g,ht.sw mt λk=>Dm g⟩⟩|false=>exact U _ _ Ks _ _ h.f ⟨y,T,mt,ht⟩
theorem Jn:Mh tFb c_lfloor_by .val 4 0 Il:=by
 refine .specF λz V K X h=>?_;obtain⟨l,rfl,rfl,Y,U⟩:=h;refine⟨rfl,l,0,rfl,Y,rfl,l,1,rfl,Y,rfl,_,_,_,rfl,rfl,λw L u T d O st=>(ifB (λZ=>?_) λZ=>D9 (IO u T d O st) U)⟩;have y:=A5 (a:=(l.getD 0 0).fdiv 7) (b:=4) (by decide)
 refine⟨⟨y.1,Int.lt_trans y.2 (by decide)⟩,?_⟩
 rcases four y with e|e|e|e<;>rw[e]
 .exact⟨_,rfl,by have:=D9 (l:=l) (x:=l.getD 0 0) (X:=λe τ=>X e (f9 ([]:LS).length τ)) fixE_ok U;rw[<- fixE_lit]at this;exact this⟩
 .exact⟨_,rfl,by have:=D9 (l:=l) (x:=l.getD 0 0) (X:=λe τ=>X e (f9 ([]:LS).length τ)) fixF_ok U;rw[<- fixF_lit]at this;exact this⟩
 .exact⟨_,rfl,by have:=D9 (l:=l) (x:=l.getD 0 0) (X:=λe τ=>X e (f9 ([]:LS).length τ)) fixG_ok U;rw[<- fixG_lit]at this;exact this⟩
 .exact⟨_,rfl,by have:=D9 (l:=l) (x:=l.getD 0 0) (X:=λe τ=>X e (f9 ([]:LS).length τ)) fixH_ok U;rw[<- fixH_lit]at this;exact this⟩
end
section
noncomputable def up(μ:Sp->Sp)(c:Sp)(g:Sp->Sp)(j:Sp):Sp:=if j=c then μ c else g j
noncomputable def ups(μ:Sp->Sp):List Sp->(Sp->Sp)->Sp->Sp
 |[],g=>g
 |c::l,g=>ups μ l (up μ c g)
theorem ups_in:∀{l:List Sp}{g:Sp->Sp},k∈l\/g k=μ k->ups μ l g k=μ k
 |[],g,h=>h.elim (λz=>by exact nM z) id
 |c::l,g,h=>ups_in (l:=l) (g:=up μ c g) (by
  unfold up
  by_cases e:k=c
  .rw[if_pos e,e];exact .inr rfl
  .rw[if_neg e];exact h.imp_left λz=>(az.mp z).resolve_left e)
theorem JI:∀{l:List Sp}{g:Sp->Sp},k∉l->ups μ l g k=g k
 |[],_,_=>rfl
 |c::l,g,h=>(JI (l:=l) λz=>h (.tail _ z)).trans (if_neg λ(e:k=c)=>h (by rw[e];exact .head _))
theorem FH(h:c∈Ks)(e:μ c=z):Bs (fD (spm g) Ks) c (sp z)=fD (spm (up μ c g)) Ks:=by
 rw[FI h];refine Im λj Z=>?_;unfold spm up
 by_cases q:j=c
 .rw[if_pos q,if_pos q,e]
 .rw[if_neg q,if_neg q]
theorem fo_mem:k∈[(x - 1,y - 1),(x,y - 1),(x - 1,y),(x,y)]↔Fo x y k:=by
 constructor
 .intro h
  simp only[az,bp,or_false]at h
  rcases h with rfl|rfl|rfl|rfl
  .exact⟨.inl rfl,.inl rfl⟩
  .exact⟨.inr rfl,.inl rfl⟩
  .exact⟨.inl rfl,.inr rfl⟩
  .exact⟨.inr rfl,.inr rfl⟩
 .obtain⟨a,b⟩:=k
  refine λu=>An u λY z=>?_;dsimp only at Y z
  rcases Y with rfl|rfl<;>rcases z with rfl|rfl
  .exact .head _
  .exact .tail _ (.tail _ (.head _))
  .exact .tail _ (.head _)
  .exact .tail _ (.tail _ (.tail _ (.head _)))
theorem Ge:mir x y a7 (x - 1,b)=(x,b):=bX (by show 2 * x - 1 - (x - 1)=x;exact af (lin [] [x] (.f (.S (.S (.M 2 V0) K1) (.S V0 K1)) V0) [] rfl) (lin [] [x] (.f V0 (.S (.S (.M 2 V0) K1) (.S V0 K1))) [] rfl)) rfl
theorem mir_f2:mir x y a7 (x,b)=(x - 1,b):=bX (by show 2 * x - 1 - x=x - 1;exact af (lin [] [x] (.f (.S (.S (.M 2 V0) K1) V0) (.S V0 K1)) [] rfl) (lin [] [x] (.f (.S V0 K1) (.S (.S (.M 2 V0) K1) V0)) [] rfl)) rfl
theorem Gd:mir x y a6 (a,y - 1)=(a,y):=bX rfl (by show 2 * y - 1 - (y - 1)=y;exact af (lin [] [y] (.f (.S (.S (.M 2 V0) K1) (.S V0 K1)) V0) [] rfl) (lin [] [y] (.f V0 (.S (.S (.M 2 V0) K1) (.S V0 K1))) [] rfl))
theorem mir_t2:mir x y a6 (a,y)=(a,y - 1):=bX rfl (by show 2 * y - 1 - y=y - 1;exact af (lin [] [y] (.f (.S (.S (.M 2 V0) K1) V0) (.S V0 K1)) [] rfl) (lin [] [y] (.f (.S V0 K1) (.S (.S (.M 2 V0) K1) V0)) [] rfl))
theorem fo_p(M:Mt P m)(Y:c∈P)(T:m c=c')(B:d∈P)(U:m d=d')(O:mir x y v c=c')(u:mir x y v d=d')(all:∀k,Fo x y k->k∈[c,c',d,d'])(k:Sp)(f:Fo x y k):k∈P/\m k=mir x y v k:=by
 have one:∀{c c'},c∈P->m c=c'->mir x y v c=c'->c'∈P/\m c'=mir x y v c':=λ{c c'} h e z=>by
  have:=M c h
  rw[e]at this;exact⟨(nbP_mem.mp this.1).2.2,by rw[this.2,<- z,KC]⟩
 have:=all k f
 simp only[az,bp,or_false]at this
 rcases this with rfl|rfl|rfl|rfl
 .exact⟨Y,by rw[T,O]⟩
 .exact one Y T O
 .exact⟨B,by rw[U,u]⟩
 .exact one B U u
def Tu(P:List Sp)(m:Sp->Sp)(v:Bool)(x y:Int):Prop:=∀k,Fo x y k->k∈P/\m k=mir x y v k
theorem Tu.tn(p:Tu P m v x y)(Y:∀k,k∈l↔Fo x y k):Tn P x y v m (ups (mir x y (!v)) l m) :=
 ⟨λk f=>(p k f).1,λk f=>(p k f).2,λk f=>ups_in (.inl ((Y k).mpr f)),λk f=>JI λz=>f ((Y k).mp z)⟩
theorem Tn.lyd(T:Tn P x y v m m')(L:Lyd P Ks m h):Lyd P Ks m' (hup x y v h):=⟨L.nd,L.mem,T.mt L.mt,T.ht L.ht⟩
theorem EqP.sp(e:a=b):EqP (Internal.sp a) (Internal.sp b) a6:=.py ⟨IV a,IV b,rfl,rfl,rfl,rfl,(LG a b).trans (decide_eq_true e)⟩
theorem EqP.nsp(e:a≠b):EqP (Internal.sp a) (Internal.sp b) a7:=.py ⟨IV a,IV b,rfl,rfl,rfl,rfl,(LG a b).trans (decide_eq_false e)⟩
theorem FA{K:Bool->Prop}(h:K (decide (k∈Ks/\m k=z))):eqW ((A2 (fD (spm m) Ks) k).getD .none) (sp z) V K:=by
 by_cases q:k∈Ks
 .rw[Ep q]
  refine⟨decide (m k=z),.py ⟨IV (m k),IV z,rfl,rfl,?_,?_,LG _ _⟩,?_⟩
  .rfl
  .rfl
  .rwa [show decide (k∈Ks/\m k=z)=decide (m k=z) from decide_eq_decide.mpr (and_iff_right q)]at h
 .rw[Hw,if_neg q]
  refine⟨a7,.py ⟨.none,IV z,rfl,rfl,rfl,rfl,rfl⟩,?_⟩
  rwa [decide_eq_false λw=>q w.1]at h
inductive QR(avs:List AV)(V:LS)(K:KR):Prop
 |mk (a:_)(k:_)(P:List Sp)(Ks:List Sp)(m:Sp->Sp)(h:Sp->Int)(c0:avs=[.loc a 0,sp k])(c1:V=[.at a (.dict (fD (spm m) Ks))])(c2:(Ks.length<=36/\Lyd P Ks m h))(c3:(∀v m',Tn P k.1 k.2 v m m'->K ⟨[],.val (.bool a6)⟩ [.at a (.dict (fD (spm m') Ks))]))(c4:((∀v,¬Tu P m v k.1 k.2)->K ⟨[],.val (.bool a7)⟩ [.at a (.dict (fD (spm m) Ks))])):QR avs V K
noncomputable def fTurn:FS:=specF λavs V K Z=>QR avs V K
noncomputable def tuM(a:bg)(x y:Int)(x8 x9 x10:Option AV):M:=[a0 (.loc a 0),a0 (sp (x,y)),a0 (.int x),a0 (.int y),a0 (sp (x - 1,y - 1)),a0 (sp (x,y - 1)),a0 (sp (x - 1,y)),a0 (sp (x,y)),x8,x9,x10]
noncomputable abbrev t0:Tab:=⟨a6,[],[],[],[]⟩
theorem tu_end{K:KR}(hl:Ks.length<=36)(q1:p1∈Ks)(O:p2∈Ks)(z:p3∈Ks)(d:p4∈Ks)(h1:μ p1=p2)(h2:μ p2=p1)(h3:μ p3=p4)(h4:μ p4=p3)(U:K ⟨[],.val (.bool a6)⟩ [.at a (.dict (fD (spm (ups μ [p1,p2,p3,p4] m)) Ks))]) :
  wpSs t0 (c_lturn.body.drop 3) X (tuM a x y (a0 (.list [.tup [sp p1,sp p2],.tup [sp p3,sp p4]])) aa aa) [.at a (.dict (fD (spm m) Ks))] (λfl Z τ=>CA .val 1 (flV fl) τ K):=by
 have u:∀g,(fD (spm g) Ks).length<=big:=λg=>Aq (by rw[Bw];exact lin [Ks.length] [] (.b V0 AD) [.b V0 K36] rfl hl)
 have e:=FH (μ:=μ) (g:=m) q1 h1;have e':=FH (μ:=μ) (g:=up μ p1 m) O h2;have e3:=FH (μ:=μ) (g:=up μ p2 (up μ p1 m)) z h3;have e4:=FH (μ:=μ) (g:=up μ p3 (up μ p2 (up μ p1 m))) d h4;have l1:=u m;have B:=u (up μ p1 m);have Y:=u (up μ p2 (up μ p1 m));have T:=u (up μ p3 (up μ p2 (up μ p1 m)));have U:K ⟨[],.val (.bool a6)⟩ [.at a (.dict (fD (spm (up μ p4 (up μ p3 (up μ p2 (up μ p1 m))))) Ks))]:=U;rw[<- e4]at U;rw[<- e3]at T U;rw[<- e']at Y T U;rw[<- e]at B Y T U;exact⟨rfl,l1,rfl,B,rfl,Y,rfl,T,U⟩
theorem turn_ok:Mh ⟨a6,[],[],[],[]⟩ c_lturn .val 9 0 fTurn:=by
 refine .specF λavs V K X h=>?_;obtain⟨a,⟨x,y⟩,P,Ks,m,h,rfl,rfl,⟨hl,L⟩,hK,hN⟩:=h;have B:=λk=>(L.mem k).mpr;have O:=λk=>(L.mem k).mp;have u:¬Tu P m a7 x y->∀X:XL,wpSs t0 [.ite (.and [.cmp .Eq (.meth (.v 0) 6 [.v 4]) (.v 6),.cmp .Eq (.meth (.v 0) 6 [.v 5]) (.v 7)]) [.assign (.v 8) (.list [.tup [.v 4,.v 5],.tup [.v 6,.v 7]])] [.ret (.bool a7)]] X (tuM a x y aa aa aa) [.at a (.dict (fD (spm m) Ks))] (kSeq (wpSs t0 (c_lturn.body.drop 3) X) (λfl Z τ=>CA .val 1 (flV fl) τ K)):=λnh X=>by
  have no:∀{a:Int},(a=x - 1\/a=x)->decide ((a,y - 1)∈Ks/\m (a,y - 1)=(a,y))=a7->∀v,¬Tu P m v x y:=λha e v T=>by
   cases v with|false=>exact nh T|true=>exact of_decide_eq_false e ⟨B _ (T _ ⟨ha,.inl rfl⟩).1,(T _ ⟨ha,.inl rfl⟩).2.trans Gd⟩
  refine⟨rfl,rfl,FA (ifB (λd=>⟨rfl,rfl,FA (ifB (λz=>(An (of_decide_eq_true d) λc1 c2=>(An (of_decide_eq_true z) λd1 U=>?_))) λz=>hN (no (.inr rfl) z))⟩) λd=>hN (no (.inl rfl) d))⟩;have p:=fo_p (x:=x) (y:=y) (v:=a6) L.mt (O _ c1) c2 (O _ d1) U Gd Gd λk f=>(List.Perm.mem_iff (.cons _ (.swap ..))).mp (fo_mem.mpr f);have L':=Tu.tn (l:=[(x - 1,y - 1),(x,y - 1),(x - 1,y),(x,y)]) p (λk=>fo_mem);have q:∀k,Fo x y k->k∈Ks:=λk f=>B k (p k f).1;exact tu_end hl (q _ ⟨.inl rfl,.inl rfl⟩) (q _ ⟨.inr rfl,.inl rfl⟩) (q _ ⟨.inl rfl,.inr rfl⟩) (q _ ⟨.inr rfl,.inr rfl⟩) Ge mir_f2 Ge mir_f2 (hK _ _ L')
 have Y:∀X:XL,wpSs t0 (c_lturn.body.drop 2) X (tuM a x y aa aa aa) [.at a (.dict (fD (spm m) Ks))] (λfl Z τ=>CA .val 1 (flV fl) τ K):=λX=>by
  refine⟨rfl,rfl,FA ?_⟩;have no:∀{b:Int},(b=y - 1\/b=y)->decide ((x - 1,b)∈Ks/\m (x - 1,b)=(x,b))=a7->¬Tu P m a7 x y:=λhb e T=>of_decide_eq_false e ⟨B _ (T _ ⟨.inl rfl,hb⟩).1,(T _ ⟨.inl rfl,hb⟩).2.trans Ge⟩;refine ifB (λd=>⟨rfl,rfl,FA (ifB (λz=>(An (of_decide_eq_true d) λc1 c2=>(An (of_decide_eq_true z) λd1 U=>?_))) λz=>u (no (.inr rfl) z) X)⟩) λd=>u (no (.inl rfl) d) X;have p:=fo_p (x:=x) (y:=y) (v:=a7) L.mt (O _ c1) c2 (O _ d1) U Ge Ge λk f=>fo_mem.mpr f;have L':=Tu.tn (l:=[(x - 1,y - 1),(x - 1,y),(x,y - 1),(x,y)]) p (λk=>(List.Perm.mem_iff (.cons _ (.swap ..))).trans fo_mem);have q:∀k,Fo x y k->k∈Ks:=λk f=>B k (p k f).1;exact tu_end hl (q _ ⟨.inl rfl,.inl rfl⟩) (q _ ⟨.inl rfl,.inr rfl⟩) (q _ ⟨.inr rfl,.inl rfl⟩) (q _ ⟨.inr rfl,.inr rfl⟩) Gd mir_t2 Gd mir_t2 (hK _ _ L')
 exact⟨rfl,Y _⟩
end
section
structure Flr(P C:List Sp)(a:Sp):Prop where
 few:P.length<=36
 up:P.Pairwise lt2
 sm:∀k∈P,(0<=k.1/\k.1<6)/\0<=k.2/\k.2<6
 ne:∃P',P=a::P'
 hg:Mp P a
 co:Cor P C
theorem Flo.flr(f:Flo G w):∃a,Flr (Ae G) (corC G w) a:=by
 refine X2pp f.ne λa U e h=>?_;have h6:=f.g.h6;have w6:=f.g.w6;exact⟨a,f.g.cells,Ix G,λk z=>by refine B4 (f.g.in z) λd B T y=>?_;exact⟨⟨d,lin [w] [k.fst] (.g V0 K6) [.b V0 K6,.g V0 (.c V0)] rfl w6 B⟩,T,lin [bW G] [k.snd] (.g V0 K6) [.b V0 K6,.g V0 (.c V0)] rfl h6 y⟩,⟨U,e⟩,h,f.g.cor⟩
theorem Flr.ha(f:Flr P C a):a∈P:=by
 refine X1p f.ne λU e=>?_;rw[e];exact .head _
theorem Lyd.len(L:Lyd P Ks m h)(d:P.length<=36):Ks.length<=36:=am (sub_length L.nd λk B=>(L.mem k).mp B) d
noncomputable def all49:List Sp:=(ivs 0 7).flatMap λx=>(ivs 0 7).map λy=>(x,y)
noncomputable def hash49:List Int:=[-0x756158cae84d4f99,-0x1b119000fefce840,0x63fca45ae467b492,-0x41b392db3247e415,0x189c35eeb7088344,-0x2b4b7af8e592dfea,-0xe05cceb7c427891,-0x47ac6c362c5564e8,0x746be2e2370f37ea,-0x31445453dfa060bd,-0x13fea646764ff964,-0x57e6572e12eb5c92,0x269719bd6650ac7,-0x417e3f4bc6365867,0x410655cc8ccbedec,0x5e4c03d9f61c5545,0x1a6452f25980f217,0x74b41bbc42d15970,0x30cc6ad4a635f642,-0x74e3cc617079a265,-0x579e1e5407293b0c,0x1f342a9978c4112f,0x7983f36362147888,0x359c427bc579155a,0x52e1f0892ec97cb3,0xefa3fa1922e1985,0x694a086b7b7e80de,-0x3c662eca9b3117c9,-0x58191363ce1a9bfd,0x236b5661b35cb5c,-0x7ebb163e016597d2,-0x246b4d7418153079,0x35e47b55d13b36e0,-0xe033591cb602c4e,0xf42787b9df03b0b,-0x2a6426cf1222b14c,0x2feba1fad72db60d,-0x510629a9456dad21,0x9499f20a3e2ba38,-0x3a9e11c6f8b8a8f6,0x1fb1b702f097be63,-0x614014a12c03a4cb,-0x4c365202262a8e09,0x6fe1fd163d3a0ec9,-0x35ce3a1fd97589de,0x24818eaa0fdadd7b,-0x5c703cfa0cc085b3,-0x220743023701e5a,-0x46082517c00b8188]
theorem H5:all49.map AX=hash49:=by decide +kernel
theorem H4:hash49.Nodup:=by decide +kernel
theorem Lf:(all49.map AX).Nodup:=by rw[H5];exact H4
theorem K9:∀{l:List Sp},(l.map f).Nodup->a∈l->b∈l->f a=f b->a=b
 |[],_,h,_,_=>by exact nM h
 |x::l,nd,ha,Y,e=>by
  rw[b5,bG]at nd
  rcases az.mp ha with z|ha<;>rcases az.mp Y with y|Y
  .exact z.trans y.symm
  .rw[z]at e
   exact absurd (e▸cQ Y) nd.1
  .rw[y]at e
   exact absurd (e▸cQ ha) nd.1
  .exact K9 nd.2 ha Y e
theorem Es(h:(0<=k.1/\k.1<7)/\0<=k.2/\k.2<7):k∈all49:=dY.mpr ⟨k.1,ivs_mem.mpr h.1,aJ.mpr ⟨k.2,ivs_mem.mpr h.2,rfl⟩⟩
theorem Gq(g:Ah->β):((fD f l).map λp=>g p.1)=l.map g:=by unfold fD;rw[aV];rfl
theorem hash_nd(y:Ks.Nodup)(hs:∀k∈Ks,(0<=k.1/\k.1<7)/\0<=k.2/\k.2<7):((fD f Ks).map λp=>AX p.1).Nodup:=by
 rw[Gq];exact b6.mpr (y.imp_of_mem λ{a b} ha hb ne e=>ne (K9 Lf (Es (hs a ha)) (Es (hs b hb)) e))
inductive Q9(avs:List AV)(V:LS)(K:KR):Prop
 |mk (P:List Sp)(C:List Sp)(a:_)(Ks:List Sp)(m:Sp->Sp)(h:Sp->Int)(n:_)(c:_)(c0:avs=[.dict (fD (spm m) Ks),.int n,.int c])(c1:V=[])(c2:(Flr P C a/\Lyd P Ks m h/\0<=c/\c<=1000))(c3:∀m' h',Lyd P Ks m' h'->K ⟨[.dict (fD (spm m') Ks)],.new 0⟩ []):Q9 avs V K
noncomputable def fDrawn:FS:=specF λavs V K Z=>Q9 avs V K
noncomputable def drM(D0:List (Ah×AV))(n c:Int)(f:bg)(x:Option AV):M:=[a0 (.dict D0),a0 (.int n),a0 (.int c),a0 (.loc f 4),x]
noncomputable def drS(f:bg)(D:List (Ah×AV)):LS:=[.no,.no,.no,.no,.at f (.dict D)]
inductive DrJ(P Ks:List Sp)(D0:List (Ah×AV))(c:Int)(f:bg)(d r:List Int):M->LS->Prop
 |mk (n:Int)(x:Option AV)(D:List (Ah×AV))(m:Sp->Sp)(h:Sp->Int)(L:Lyd P Ks m h)(e:D=fD (spm m) Ks):DrJ P Ks D0 c f d r (drM D0 n c f x) (drS f D)
theorem drawn_ok:Mh ⟨a6,[],[(73,ES),(86,fTurn)],[],[]⟩ Cn .new 2 5 fDrawn:=by
 refine .specF λavs V K X h=>?_;obtain⟨P,C,a,Ks,m,h,n,c,rfl,rfl,⟨F,L,h0,h1⟩,hK⟩:=h;have Y:=L.len F.few;have iP:=λk=>(L.mem k).mp;have ne:fD (spm m) Ks≠[]:=λe=>by
  have:=(L.mem a).mpr F.ha
  rw[show Ks=[] from List.map_eq_nil_iff.mp e]at this
  exact nM this
 refine⟨rfl,.inl ⟨⟨Aq (by rw[Bw];exact lin [Ks.length] [] (.b V0 AD) [.b V0 K36] rfl Y),ne,hash_nd L.nd λk hk=>by obtain⟨⟨u,O⟩,U,z⟩:=F.sm k (iP k hk);exact⟨⟨u,lin [] [k.fst] (.g V0 K7) [.g V0 K6] rfl O⟩,U,lin [] [k.snd] (.g V0 K7) [.g V0 K6] rfl z⟩⟩,λf=>⟨BZ (by decide) (by decide) (lin [] [c] (.f Bj V0) [.f K0 V0] rfl h0) (lin [] [c] (.f V0 Aw) [.f V0 AD] rfl h1),AS (g:=.int) (HK 0 c) (DrJ P Ks (fD (spm m) Ks) c f) (λd m τ j=>?_) (λd y r m τ j C B=>?_) (d:=[]) (.mk _ _ _ m h L rfl)⟩⟩⟩
 .induction j using DrJ.casesOn with|mk n x D m h L e=>subst e;exact⟨rfl,hK m h L⟩
 .induction j using DrJ.casesOn with
  |mk n x D m h L e =>
   subst e;exact⟨f,(_,_),P,Ks,m,h,rfl,rfl,⟨Y,L⟩,λv m' T=>B _ _ (.mk _ _ _ m' _ (T.lyd L) rfl),λZ=>B _ _ (.mk _ _ _ m h L rfl)⟩
noncomputable def pcA(q:Ah×Ah):AV:=.tup [sp q.1,sp q.2]
noncomputable def pc?(a:AV):Option (Ah×Ah):=a.tup?.bind λl=>(two? l).bind λz=>(spot? z.1).bind λu=>(spot? z.2).bind λv=>a0 (u,v)
theorem pc?_out(h:pc? a=a0 q):a=pcA q:=by
 refine X1pp (AC h) λl B h=>X1pp (AC h) λz U h=>X1pp (AC h) λu Y h=>X1pp (AC h) λv y h=>?_;obtain rfl:=ae h;rw[AV.tup?_out B,two?_out U,spot?_out Y,spot?_out y];rfl
noncomputable def kyP(x:AV):Option Ah:=(pc? x).bind λq=>a0 (q.1.2,q.1.1)
noncomputable def firstF(avs:List AV):Option AV:=(one? avs).bind λa=>(kyP a).bind λk=>a0 (sp k)
theorem first_ok:Mh ⟨a6,[],[(89,pureF keyF)],[],[]⟩ IC .val 0 0 (pureF firstF):=by
 refine .pureF λy v h K U=>X1pp (AC h) λa B h=>X1pp (AC h) λk z h=>X1pp (AC z) λq Y z=>?_;obtain rfl:=ae h;obtain rfl:=ae z;obtain rfl:=one?_out B;rw[pc?_out Y];exact⟨rfl,U⟩
theorem kyP_pure(x:AV)(p:Ah)(h:kyP x=a0 p):(pureF firstF).pure [x]=a0 (sp p):=by
 show (kyP x).bind _=_;rw[h];rfl
theorem perm_pcs(h:L.Perm (H0.map pcA)):∃H:List (Sp×Sp),L=H.map pcA/\H.Perm H0:=by
 have e:∀H:List (Sp×Sp),(H.map pcA).map (λx=>(pc? x).getD ((0,0),(0,0)))=H:=λH=>by
  rw[aV];exact fw H
 refine⟨L.map λx=>(pc? x).getD ((0,0),(0,0)),?_,?_⟩
 .rw[aV]
  refine(fw L).symm.trans (b4 λx u=>(X1pp (aJ.mp (h.mem_iff.mp u)) λq Z z=>?_));clear u;subst z
  rfl
 .have:=h.map λx=>(pc? x).getD ((0,0),(0,0))
  rwa [e]at this
theorem Hand.len(h:Hand P m H)(u:P.length<=36):H.length<=18:=by
 have Y:=sub_length h.nd λk z=>(h.mem k).mp z;have T:(covL H).length=2 * H.length:=by
  clear h Y;unfold covL
  induction H with|nil=>rfl|cons q d y=>rw[ig,ar,y];show 2+2 * d.length=2 * (d.length+1);exact aq (lin [d.length] [] (.b (.A K2 (.M 2 V0)) (.M 2 (.A V0 K1))) [] rfl) (lin [d.length] [] (.b (.M 2 (.A V0 K1)) (.A K2 (.M 2 V0))) [] rfl)
 exact lin [P.length,(covL H).length,H.length] [] (.B 2 V2 K18) [.b V0 K36,.b V1 V0,.D (-1) V1 (.M 2 V2)] rfl u Y T
theorem Ea(f:Ah->AV)(l:List Ah):((fD f l).map λp=>sp p.1)=l.map sp:=Gq sp
theorem Kn(a b:Sp):AM (a.2,a.1) (b.2,b.1)=FV a b:=by
 refine Bool.eq_iff_iff.mpr (pairLt_iff.trans ?_);unfold FV
 by_cases q:a.2=b.2
 .rw[if_pos q,decide_eq_true_iff]
  exact⟨λz=>z.elim (λz=>absurd q (Int.ne_of_lt z)) (·.2),λz=>.inr ⟨q,z⟩⟩
 .rw[if_neg q,decide_eq_true_iff]
  exact⟨λz=>z.elim id λz=>absurd z.1 q,.inl⟩
theorem lay_one(L:Lyd P Ks m h)(U:P.Pairwise lt2)(p:H.Perm (Dd Ks m))(u:(H.map (·.1)).Pairwise lt2):H=Dd P m:=by
 have T:∀q∈H,q.1∈P/\FV q.1 (m q.1)=a6/\q=(q.1,m q.1):=λq hq=>by
  exact X1pr q (aJ.mp (p.mem_iff.mp hq)) λc d=>An (cA.mp d) λY z=>⟨(L.mem c).mp Y,z,rfl⟩
 have e:H.map (·.1)=P.filter λc=>FV c (m c):=GS u (U.filter _) λx=>by
  rw[cA,aJ]
  constructor
  .rintro ⟨q,hq,rfl⟩;exact⟨(T q hq).1,(T q hq).2.1⟩
  .rintro ⟨Y,z⟩;exact⟨(x,m x),p.mem_iff.mpr (aJ.mpr ⟨x,cA.mpr ⟨(L.mem x).mpr Y,z⟩,rfl⟩),rfl⟩
 unfold Dd;rw[<- e,aV];refine(fw H).symm.trans (b4 λq hq=>(T q hq).2.2)
inductive QQ(avs:List AV)(V:LS)(K:KR):Prop
 |mk (P:List Sp)(Ks:List Sp)(m:Sp->Sp)(h:Sp->Int)(c0:avs=[.dict (fD (spm m) Ks)])(c1:V=[])(c2:(P.length<=36/\P.Pairwise lt2/\Lyd P Ks m h))(c3:K ⟨[.list ((Dd P m).map pcA)],.new 0⟩ []):QQ avs V K
noncomputable def fTold:FS:=specF λavs V K Z=>QQ avs V K
theorem told_ok:Mh ⟨a6,[],[(89,pureF keyF)],[],[(91,kyP)]⟩ LV .new 2 5 fTold:=by
 refine .specF λavs V K X h=>?_;obtain⟨P,Ks,m,h,rfl,rfl,⟨hP,U,L⟩,hK⟩:=h;have Y:=L.len hP;have y:(Dd Ks m).length<=Ks.length:=by unfold Dd;rw[aj];exact dA _ _
 refine⟨rfl,Aq (by rw[aj,Bw];exact lin [Ks.length] [] (.b V0 AD) [.b V0 K36] rfl Y),GB (g:=sp) (f:=λk=>pcA (k,m k)) (P:=λk=>FV k (m k)) (Ea _ _) (λk B ys C d T=>?_) ?_⟩
 .refine⟨_,Ep B,?_⟩
  rw[<- Kn]at d T;exact ifB (λe=>⟨_,Ep B,d e⟩) T
 .have e:((Ks.filter λk=>FV k (m k)).map λk=>pcA (k,m k))=(Dd Ks m).map pcA:=by unfold Dd;rw[aV];rfl
  rw[e];refine⟨⟨λx u=>by refine X1pp (aJ.mp u) λq Z Z0=>?_;clear u;subst Z0;rfl,by rw[aj];exact lin [Ks.length,(Dd Ks m).length] [] (.c V1 K64) [.b V0 K36,.b V1 V0] rfl Y y,?_⟩,λL' O a=>?_⟩
  .unfold Dd
   rw[aV,aV];exact b6.mpr ((L.nd.filter _).imp λ{a b} q (e:((a.2,a.1):Sp)=(b.2,b.1))=>q (bX (cT e).2 (cT e).1))
  .refine X1pp (perm_pcs O.1) λH Z1 p=>?_
   subst Z1;rw[lay_one L U p (b6.mpr ((b6.mp O.2).imp λ{q r} z=>pairLt_iff.mp z))];exact⟨rfl,hK⟩
end
section
noncomputable def lrF(x y:Int)(w:Sp):Sp×Sp:=if w=(1,0) then ((x,y - 1),(x,y)) else if w=(0,1) then ((x,y),(x - 1,y)) else if w=(-1,0) then ((x - 1,y),(x - 1,y - 1)) else ((x - 1,y - 1),(x,y - 1))
theorem Hd.lr{w o l r:Sp}(h:Hd x y w o l r):(l,r)=lrF x y w:=by induction h using Hd.casesOn<;>rfl
theorem Hd.o{w o l r:Sp}(h:Hd x y w o l r):o=(x+w.1,y+w.2):=by
 induction h using Hd.casesOn with|r=>exact bX rfl (bB y).symm|d=>exact bX (bB x).symm rfl|l=>exact bX rfl (bB y).symm|u=>exact bX (bB x).symm rfl
theorem Hd.one{w U o l r l' O:Sp}(h:Hd x y w o l r)(h':Hd x y U o l' O):l=l'/\r=O:=by
 have e:=h.o.symm.trans h'.o;have u:x+w.1=x+U.1:=congrArg dK e;have T:y+w.2=y+U.2:=congrArg eu e;obtain rfl:w=U:=bX (af (lin [] [x,w.fst,U.fst] (.f V1 V2) [.h (.A V0 V1) (.A V0 V2)] rfl u) (lin [] [x,w.fst,U.fst] (.f V2 V1) [.H (-1) (.A V0 V1) (.A V0 V2)] rfl u)) (af (lin [] [y,w.snd,U.snd] (.f V1 V2) [.h (.A V0 V1) (.A V0 V2)] rfl T) (lin [] [y,w.snd,U.snd] (.f V2 V1) [.H (-1) (.A V0 V1) (.A V0 V2)] rfl T));exact cT (h.lr.trans h'.lr.symm)
theorem Hd.way{w o l r:Sp}(h:Hd x y w o l r):w∈ways:=by
 induction h using Hd.casesOn with|r=>exact .head _|d=>exact .tail _ (.head _)|l=>exact .tail _ (.tail _ (.head _))|u=>exact .tail _ (.tail _ (.tail _ (.head _)))
theorem Hd.near{w o l r:Sp}(h:Hd x y w o l r):r∈A8 l:=by
 induction h using Hd.casesOn with|r=>exact Bv CG|d=>exact Do|l=>exact CG|u=>exact Bv Do
theorem Hd.abs{w o l r:Sp}(h:Hd x y w o l r)(O:x.natAbs<=1000)(U:y.natAbs<=1000):(l.1.natAbs<=1000000/\l.2.natAbs<=1000000)/\r.1.natAbs<=1000000/\r.2.natAbs<=1000000:=by
 have B:(x - 1).natAbs<=1000000:=am (Int.natAbs_sub_le x 1) (am (gf O 1) (by decide))
 have T:(y - 1).natAbs<=1000000:=am (Int.natAbs_sub_le y 1) (am (gf U 1) (by decide))
 have Y:x.natAbs<=1000000:=by exact lin [x.natAbs] [] (.b V0 Aw) [.b V0 AD] rfl O
 have z:y.natAbs<=1000000:=by exact lin [y.natAbs] [] (.b V0 Aw) [.b V0 AD] rfl U
 induction h using Hd.casesOn with|r=>exact⟨⟨Y,T⟩,Y,z⟩|d=>exact⟨⟨Y,z⟩,B,z⟩|l=>exact⟨⟨B,z⟩,B,T⟩|u=>exact⟨⟨B,T⟩,Y,T⟩
theorem sg_if(k:Sp):sg k=match dark k with
 |true=>1
 |false=>-1:=rfl
theorem near_odd(h:r∈A8 l):((r.1+r.2).fmod 2 == 1)=dark l:=by
 have e:=B3 h
 have:=A5 (a:=r.1+r.2) (b:=2) (by decide)
 unfold dark at e ⊢
 rcases(show (r.1+r.2).fmod 2=0\/(r.1+r.2).fmod 2=1 by exact cg λy=>(aW (λz=>y (.inl z))).elim (λO=>lin [] [(r.fst+r.snd).fmod 2] .no [.f K0 V0,.g V0 K0] rfl this.1 O) (λO=>(aW (λz=>y (.inr z))).elim (λT=>lin [] [(r.fst+r.snd).fmod 2] .no [.g K0 V0,.g V0 K1] rfl O T) (λT=>lin [] [(r.fst+r.snd).fmod 2] .no [.g V0 K2,.g K1 V0] rfl this.2 T)))with q|q<;>rw[q]at e ⊢
 .cases z:((l.1+l.2).fmod 2 == 0)<;>rw[z]at e<;>first|rfl|cases e
 .cases z:((l.1+l.2).fmod 2 == 0)<;>rw[z]at e<;>first|rfl|cases e
noncomputable def stM(D:List (Ah×AV))(x y:Int)(w l r:Sp)(x7 x8:Option AV):M:=[a0 (.dict D),a0 (sp (x,y)),a0 (sp w),a0 (.int x),a0 (.int y),a0 (sp l),a0 (sp r),x7,x8]
theorem step_end{K:KR}(h:K ⟨[],.val (.int (stp Ks m l r))⟩ []) :
  wpSs t0 (c_lstep.body.drop 4) X (stM (fD (spm m) Ks) x y w l r (a0 (.bool (dark l))) aa) [] (λfl Z τ=>CA .val 0 (flV fl) τ K):=by
 have Y:wpSs t0 (c_lstep.body.drop 5) X (stM (fD (spm m) Ks) x y w l r (a0 (.bool (dark l))) (a0 (.int (sg l)))) [] (λfl Z τ=>CA .val 0 (flV fl) τ K):=by
  unfold stp at h
  by_cases q:l∈Ks
  .refine⟨a6,Jk q,_,Ep q,?_⟩
   by_cases e:m l=r
   .rw[if_pos ⟨q,e⟩]at h
    exact⟨a6,EqP.sp e,eU (by decide +kernel),h⟩
   .rw[if_neg λz=>e z.2]at h
    exact⟨a7,EqP.nsp e,h⟩
  .rw[if_neg λz=>q z.1]at h
   exact⟨a7,DT q,h⟩
 rw[sg_if]at Y;generalize dark l=b at Y ⊢
 cases b with|true=>exact Y|false=>exact Y
noncomputable def nuM(D:List (Ah×AV))(a:Sp)(a1 a2:bg)(x4 x5 x6 x7:Option AV):M:=[a0 (.dict D),a0 (sp a),a0 (.loc a1 4),a0 (.loc a2 5),x4,x5,x6,x7]
noncomputable def nuS(a1 a2:bg)(F:List (Ah×AV))(W:List AV):LS:=[.no,.no,.no,.no,.at a1 (.dict F),.at a2 (.list W)]
theorem list_nil(ws:List Sp):EqP (.list (ws.map sp)) (.list []) ws.isEmpty:=by
 cases ws with
 |nil=>exact(Ml.spots []).eq (by decide)
 |cons k ws =>
  refine X1ppp (Ml.spots (k::ws)) λp Y d z=>.py ⟨p,.list [],Y,rfl,?_,rfl,?_⟩
  .unfold dF
   rw[d,decide_eq_true (am z (by decide))];rfl
  .have:GQ (.list ((k::ws).map sp))=a0 (.list ((k::ws).map IV)):=by show (DJ _).map _=_;rw[toPyL_sp];rfl
   rw[this]at Y;obtain rfl:=ae Y
   rfl
theorem Flr.cSm(F:Flr P C a)(h:k∈C):(0<=k.1/\k.1<7)/\0<=k.2/\k.2<7:=by
 refine X1pp ((F.co.mem k).mp h) λc d B=>?_;obtain⟨⟨U,u⟩,Y,y⟩:=F.sm c d;unfold Bt at B;simp only[az,bp,or_false]at B
 have:(k.1=c.1\/k.1=c.1+1)/\(k.2=c.2\/k.2=c.2+1):=by
  rcases B with rfl|rfl|rfl|rfl
  .exact⟨.inl rfl,.inl rfl⟩
  .exact⟨.inr rfl,.inl rfl⟩
  .exact⟨.inl rfl,.inr rfl⟩
  .exact⟨.inr rfl,.inr rfl⟩
 exact⟨⟨B.elim (λz=>this.1.elim (λO=>lin [] [c.fst,k.fst] (.f K0 V1) [.f K0 V0,.H (-1) V1 V0] rfl U O) (λO=>lin [] [c.fst,k.fst] (.f K0 V1) [.f K0 V0,.H (-1) V1 (.A V0 K1)] rfl U O)) (λz=>this.1.elim (λO=>lin [] [c.fst,k.fst] (.f K0 V1) [.f K0 V0,.H (-1) V1 V0] rfl U O) (λO=>lin [] [c.fst,k.fst] (.f K0 V1) [.f K0 V0,.H (-1) V1 (.A V0 K1)] rfl U O)),B.elim (λz=>this.1.elim (λO=>lin [] [c.fst,k.fst] (.g V1 K7) [.g V0 K6,.h V1 V0] rfl u O) (λO=>lin [] [c.fst,k.fst] (.g V1 K7) [.g V0 K6,.h V1 (.A V0 K1)] rfl u O)) (λz=>this.1.elim (λO=>lin [] [c.fst,k.fst] (.g V1 K7) [.g V0 K6,.h V1 V0] rfl u O) (λO=>lin [] [c.fst,k.fst] (.g V1 K7) [.g V0 K6,.h V1 (.A V0 K1)] rfl u O))⟩,⟨B.elim (λz=>this.1.elim (λO=>this.2.elim (λT=>lin [] [c.snd,k.snd] (.f K0 V1) [.f K0 V0,.H (-1) V1 V0] rfl Y T) (λT=>lin [] [c.snd,k.snd] (.f K0 V1) [.f K0 V0,.H (-1) V1 (.A V0 K1)] rfl Y T)) (λO=>this.2.elim (λT=>lin [] [c.snd,k.snd] (.f K0 V1) [.f K0 V0,.H (-1) V1 V0] rfl Y T) (λT=>lin [] [c.snd,k.snd] (.f K0 V1) [.f K0 V0,.H (-1) V1 (.A V0 K1)] rfl Y T))) (λz=>this.1.elim (λO=>this.2.elim (λT=>lin [] [c.snd,k.snd] (.f K0 V1) [.f K0 V0,.H (-1) V1 V0] rfl Y T) (λT=>lin [] [c.snd,k.snd] (.f K0 V1) [.f K0 V0,.H (-1) V1 (.A V0 K1)] rfl Y T)) (λO=>this.2.elim (λT=>lin [] [c.snd,k.snd] (.f K0 V1) [.f K0 V0,.H (-1) V1 V0] rfl Y T) (λT=>lin [] [c.snd,k.snd] (.f K0 V1) [.f K0 V0,.H (-1) V1 (.A V0 K1)] rfl Y T))),B.elim (λz=>this.1.elim (λO=>this.2.elim (λT=>lin [] [c.snd,k.snd] (.g V1 K7) [.g V0 K6,.h V1 V0] rfl y T) (λT=>lin [] [c.snd,k.snd] (.g V1 K7) [.g V0 K6,.h V1 (.A V0 K1)] rfl y T)) (λO=>this.2.elim (λT=>lin [] [c.snd,k.snd] (.g V1 K7) [.g V0 K6,.h V1 V0] rfl y T) (λT=>lin [] [c.snd,k.snd] (.g V1 K7) [.g V0 K6,.h V1 (.A V0 K1)] rfl y T))) (λz=>this.1.elim (λO=>this.2.elim (λT=>lin [] [c.snd,k.snd] (.g V1 K7) [.g V0 K6,.h V1 V0] rfl y T) (λT=>lin [] [c.snd,k.snd] (.g V1 K7) [.g V0 K6,.h V1 (.A V0 K1)] rfl y T)) (λO=>this.2.elim (λT=>lin [] [c.snd,k.snd] (.g V1 K7) [.g V0 K6,.h V1 V0] rfl y T) (λT=>lin [] [c.snd,k.snd] (.g V1 K7) [.g V0 K6,.h V1 (.A V0 K1)] rfl y T)))⟩⟩
theorem Flr.cAbs(F:Flr P C a)(h:k∈C):k.1.natAbs<=1000/\k.2.natAbs<=1000:=by
 have:=F.cSm h
 omega
theorem Flr.aC(F:Flr P C a):a∈C:=(F.co.mem a).mpr ⟨a,F.ha,.head _⟩
theorem c_len{C fs:List Sp}(y:fs.Nodup)(h:∀k∈fs,k∈C):fs.length<=C.length+1:=hW (sub_length y h)
set_option tactic.hygienic true in
theorem asgW{K:KS}(h:f (Ev m i a) V K):patW q (.v i) a m (λAo=>kSeq f K .next Ao V):=h
end
section
noncomputable def wayS:Bool->Str
 |false => "right"
 |true => "down"
noncomputable def wayA(b:Bool):AV:=.str (wayS b)
noncomputable def goS:Sp×Bool->Sp
 |(c,a7)=>(c.1+1,c.2)
 |(c,a6)=>(c.1,c.2+1)
noncomputable def lfS:Sp×Bool->Sp
 |(c,a7)=>(c.1,c.2 - 1)
 |(c,a6)=>(c.1,c.2)
noncomputable def rtS:Sp×Bool->Sp
 |(c,a7)=>(c.1,c.2)
 |(c,a6)=>(c.1 - 1,c.2)
theorem lr_near(z:Sp×Bool):rtS z∈A8 (lfS z):=by
 obtain⟨c,b⟩:=z
 cases b
 .exact Bv CG
 .exact Do
theorem way_eq(b:Bool):EqP (wayA b) (.str "right") (!b):=by
 cases b
 .exact .py ⟨_,_,rfl,rfl,by decide +kernel,by decide +kernel,by decide +kernel⟩
 .exact .py ⟨_,_,rfl,rfl,by decide +kernel,by decide +kernel,by decide +kernel⟩
inductive QD(avs:List AV)(V:LS)(K:KR):Prop
 |mk (z:Sp×Bool)(c0:avs=[sp z.1,wayA z.2])(c1:V=[])(c2:K ⟨[],.val (.tup [sp (lfS z),sp (rtS z)])⟩ []):QD avs V K
noncomputable def fHands:FS:=specF λavs V K Z=>QD avs V K
theorem hands_ok:Mh t0 E4 .val 2 0 fHands:=by
 refine .specF λy V K X h=>?_;obtain⟨⟨c,b⟩,rfl,rfl,U⟩:=h
 cases b with|false=>exact⟨rfl,a6,way_eq a7,U⟩|true=>exact⟨rfl,a7,way_eq a6,U⟩
noncomputable def sdA(z:Sp×Bool):AV:=.tup [sp z.1,sp (goS z),sp (lfS z),sp (rtS z),.int (sg (lfS z))]
def Ew(P:List Sp)(z:Sp×Bool):Prop:=lfS z∈P\/rtS z∈P
structure Sides(P C:List Sp)(S:List (Sp×Bool)):Prop where
 mem:∀z,z∈S↔z.1∈C/\Ew P z
 few:S.length<=2 * C.length
inductive QM(avs:List AV)(V:LS)(K:KR):Prop
 |mk (t:AV)(P:List Sp)(C:List Sp)(c0:avs=[AJ t P])(c1:V=[])(c2:(P.length<=36/\Cor P C))(c3:∀S,Sides P C S->K ⟨[.list (S.map sdA)],.new 0⟩ []):QM avs V K
noncomputable def Lx:FS:=specF λavs V K Z=>QM avs V K
noncomputable def siM(t:AV)(P:List Sp)(f:bg)(x2 x3 x4 x5 x6 x7:Option AV):M:=[a0 (AJ t P),a0 (.loc f 4),x2,x3,x4,x5,x6,x7]
noncomputable def siS(f:bg)(L:List AV):LS:=[.no,.no,.no,.no,.at f (.list L)]
noncomputable abbrev tSi:Tab:=⟨a6,[],[(44,fHands),(33,fDark)],[(15,fHas),(18,FE)],[]⟩
inductive SiI(t:AV)(P:List Sp)(f:bg)(d:List Sp)(c:Sp)(e r:List Bool):M->LS->Prop
 |mk (x3 x4 x5 x6 x7:Option AV)(L:List AV)(S:List (Sp×Bool))(mem:∀z,z∈S↔(z.1∈d\/z.1=c/\z.2∈e)/\Ew P z)(few:S.length<=2 * d.length+e.length)(eL:L=S.map sdA):SiI t P f d c e r (siM t P f (a0 (sp c)) x3 x4 x5 x6 x7) (siS f L)
inductive SiJ(t:AV)(P:List Sp)(f:bg)(d r:List Sp):M->LS->Prop
 |mk (x2 x3 x4 x5 x6 x7:Option AV)(L:List AV)(S:List (Sp×Bool))(mem:∀z,z∈S↔z.1∈d/\Ew P z)(few:S.length<=2 * d.length)(eL:L=S.map sdA):SiJ t P f d r (siM t P f x2 x3 x4 x5 x6 x7) (siS f L)
noncomputable def wgA(c:Sp)(b:Bool):AV:=.tup [wayA b,sp (goS (c,b))]
theorem si_turn{KK:KS}(hd:d.length<=64)(Y:e.length<=2)(j:SiI t P f d c e (b::r) m V)(C:M->LS->Prop)(u:∀Ar Ab,SiI t P f d c (e++[b]) r Ar Ab->C Ar Ab) :
  patW a6 (.tup [.v 3,.v 4]) (wgA c b) m (λAo=>wpSs tSi [.assign (.tup [.v 5,.v 6]) (.call (.g 44) [.v 2,.v 3]),.ite (.or [.meth (.v 0) 15 [.v 5],.meth (.v 0) 15 [.v 6]]) [.assign (.v 7) (.or [.and [.meth (.v 0) 15 [.v 5],.call (.g 33) [.v 5]],.and [.meth (.v 0) 15 [.v 6],.not (.call (.g 33) [.v 6])]]),.expr (.meth (.v 1) 0 [.tup [.v 2,.v 4,.v 5,.v 6,.ite (.v 7) (.int 1) (.neg (.int 1))]])] []] X Ao V (Fu aa V C KK)):=by
 induction j using SiI.casesOn with
 |mk x3 x4 x5 x6 x7 L S mem few O =>
  have T:L.length<=big:=Aq (by rw[O,aj];exact lin [d.length,e.length,S.length] [] (.b V2 AD) [.B 2 V0 K64,.b V1 K2,.b V2 (.A (.M 2 V0) V1)] rfl hd Y few)
  have dl:dark (lfS (c,b))=!dark (rtS (c,b)):=by rw[B3 (lr_near (c,b))];exact(Bool.not_not _).symm
  have put:Ew P (c,b)->∀x7,C (siM t P f (a0 (sp c)) (a0 (wayA b)) (a0 (sp (goS (c,b)))) (a0 (sp (lfS (c,b)))) (a0 (sp (rtS (c,b)))) x7) (siS f (L++[sdA (c,b)])):=λq x7=>by
   refine u _ _ (.mk _ _ _ _ _ _ (S++[(c,b)]) (λz=>?_) (by rw[ar,ar];show _+1<=_+(_+1);exact lin [S.length,d.length,e.length] [] (.b (.A V0 K1) (.A (.M 2 V1) (.A V2 K1))) [.b V0 (.A (.M 2 V1) V2)] rfl few) (by rw[O,a9];rfl))
   rw[aK,aK,mem z,ay,ay]
   constructor
   .rintro (⟨w|w,h⟩|rfl)
    .exact⟨.inl w,h⟩
    .exact⟨.inr ⟨w.1,.inl w.2⟩,h⟩
    .exact⟨.inr ⟨rfl,.inr rfl⟩,q⟩
   .rintro ⟨w|⟨w,U|U⟩,h⟩
    .exact .inl ⟨.inl w,h⟩
    .exact .inl ⟨.inr ⟨w,U⟩,h⟩
    .exact .inr (bX w U)
  have app:Ew P (c,b)->wpSs tSi [.expr (.meth (.v 1) 0 [.tup [.v 2,.v 4,.v 5,.v 6,.ite (.v 7) (.int 1) (.neg (.int 1))]])] X (siM t P f (a0 (sp c)) (a0 (wayA b)) (a0 (sp (goS (c,b)))) (a0 (sp (lfS (c,b)))) (a0 (sp (rtS (c,b)))) (a0 (.bool (dark (lfS (c,b)))))) (siS f L) (Fu aa (siS f L) C KK):=λq=>by
   have:=put q (a0 (.bool (dark (lfS (c,b)))))
   unfold sdA sg at this;generalize dark (lfS (c,b))=dk at this ⊢
   cases dk with|true=>exact⟨rfl,rfl,T,this⟩|false=>exact⟨rfl,rfl,T,this⟩
  have rest:Ew P (c,b)->wpSs tSi [.assign (.v 7) (.or [.and [.meth (.v 0) 15 [.v 5],.call (.g 33) [.v 5]],.and [.meth (.v 0) 15 [.v 6],.not (.call (.g 33) [.v 6])]]),.expr (.meth (.v 1) 0 [.tup [.v 2,.v 4,.v 5,.v 6,.ite (.v 7) (.int 1) (.neg (.int 1))]])] X (siM t P f (a0 (sp c)) (a0 (wayA b)) (a0 (sp (goS (c,b)))) (a0 (sp (lfS (c,b)))) (a0 (sp (rtS (c,b)))) x7) (siS f L) (Fu aa (siS f L) C KK):=λq=>by
   have a:=app q
   by_cases z:lfS (c,b)∈P
   .cases e:dark (lfS (c,b))with
    |true =>
     rw[e]at a;exact⟨⟨rfl,rfl⟩,⟨rfl,rfl⟩,t,P,lfS (c,b),a6,rfl,rfl,decide_eq_true z,ifT e a⟩
    |false =>
     have y:=a;rw[dl]at y;rw[e]at a;exact⟨⟨rfl,rfl⟩,⟨rfl,rfl⟩,t,P,lfS (c,b),a6,rfl,rfl,decide_eq_true z,ifF e ⟨⟨rfl,rfl⟩,⟨rfl,rfl⟩,t,P,rtS (c,b),decide (rtS (c,b)∈P),rfl,rfl,rfl,ifB (λZ=>y) λZ=>a⟩⟩
   .rw[dl]at a
    exact⟨⟨rfl,rfl⟩,⟨rfl,rfl⟩,t,P,lfS (c,b),a7,rfl,rfl,decide_eq_false z,⟨rfl,rfl⟩,⟨rfl,rfl⟩,t,P,rtS (c,b),a6,rfl,rfl,decide_eq_true (q.resolve_left z),a⟩
  refine⟨(c,b),rfl,rfl,⟨rfl,rfl⟩,⟨rfl,rfl⟩,t,P,lfS (c,b),decide (lfS (c,b)∈P),rfl,rfl,rfl,ifB (λe=>rest (.inl (of_decide_eq_true e))) λe1=>⟨⟨rfl,rfl⟩,⟨rfl,rfl⟩,t,P,rtS (c,b),decide (rtS (c,b)∈P),rfl,rfl,rfl,ifB (λe=>rest (.inr (of_decide_eq_true e))) λe2=>u _ _ (.mk _ _ _ _ _ _ S (λz=>?_) (by rw[ar];exact lin [S.length,d.length,e.length,[b].length] [] (.b V0 (.A (.M 2 V1) (.A V2 V3))) [.b V0 (.A (.M 2 V1) V2)] rfl few) O)⟩⟩
  rw[mem z,aK,ay]
  constructor
  .exact λh=>⟨h.1.imp id λw=>⟨w.1,.inl w.2⟩,h.2⟩
  .rintro ⟨w|⟨w,U|U⟩,h⟩
   .exact⟨.inl w,h⟩
   .exact⟨.inr ⟨w,U⟩,h⟩
   .rw[show z=(c,b) from bX w U]at h
    exact(h.elim (of_decide_eq_false e1) (of_decide_eq_false e2)).elim
theorem sides_ok:Mh tSi EZ .new 7 5 Lx:=by
 refine .specF λavs V K X h=>?_;obtain⟨t,P,C,rfl,rfl,⟨hP,T⟩,hK⟩:=h;have u:=T.few;refine⟨rfl,λf=>⟨⟨rfl,rfl⟩,⟨rfl,rfl⟩,t,P,C,rfl,rfl,lin [P.length] [] (.b V0 Et) [.b V0 K36] rfl hP,T,AS (r:=C) (g:=sp) rfl (λd r m V=>d++r=C/\SiJ t P f d r m V) (λd m τ j=>?_) (λd c r m τ j CC U=>?_) (d:=[]) ⟨rfl,.mk _ _ _ _ _ _ [] [] (λz=>⟨λq=>(nM q),λq=>(nM q.1)⟩) (cR _) rfl⟩⟩⟩
 .obtain⟨B,j⟩:=j
  rw[aF]at B;clear T u;subst B
  induction j using SiJ.casesOn with|mk x2 x3 x4 x5 x6 x7 L S mem few O=>subst O;exact⟨rfl,hK S ⟨mem,few⟩⟩
 .obtain⟨B,j⟩:=j
  have ld:=Cd B
  induction j using SiJ.casesOn with
  |mk x2 x3 x4 x5 x6 x7 L S mem few O =>
   refine AS (r:=[a7,a6]) (g:=wgA c) rfl (λe r m V=>e++r=[a7,a6]/\SiI t P f d c e r m V) (λe m τ j=>?_) (λe b r m τ j C2 Y=>?_) (d:=[]) ⟨rfl,.mk _ _ _ _ _ L S (λz=>(mem z).trans (and_congr_left λZ=>⟨.inl,λq=>q.elim id λq=>by exact nM q.2⟩)) few O⟩
   .refine An j λy j=>?_
    rw[aF]at y;subst y
    induction j using SiI.casesOn with
    |mk x3 x4 x5 x6 x7 L S mem few O =>
     refine U _ _ ⟨by rwa [aH],.mk _ _ _ _ _ _ L S (λz=>(mem z).trans (and_congr_left λZ=>?_)) (by rw[ar];exact few) O⟩
     rw[aK,ay];exact or_congr Iff.rfl ⟨(·.1),λq=>⟨q,by cases z.2;exact .head _;exact .tail _ (.head _)⟩⟩
   .refine An j λy j=>?_
    have le:=Cd y;exact si_turn (lin [C.length,d.length] [] (.b V1 K64) [.c V0 K64,.c V1 V0] rfl u ld) (cZ le) j C2 λAr Ab h=>Y _ _ ⟨by rwa [aH],h⟩
end
section
inductive QH(K:KR):List AV->LS->Prop
 |mk (t:AV)(P:List Sp)(a:_)(Ks:List Sp)(m:Sp->Sp)(c0:(P.length<=36/\∀k∈P,k∈Ks))(c1:K ⟨[.list ((Dd P m).map pcA)],.new 0⟩ [.at a (.dict (fD (spm m) Ks))]):QH K ([AJ t P,.loc a 0]) ([.at a (.dict (fD (spm m) Ks))])
noncomputable def fLay:FS:=specF λavs V K Z=>QH K avs V
noncomputable def lyM(t:AV)(P:List Ah)(a f:bg)(x:Option AV):M:=[a0 (AJ t P),a0 (.loc a 0),a0 (.loc f 4),x]
noncomputable def lyS(a f:bg)(D:List (Ah×AV))(L:List AV):LS:=[.at a (.dict D),.no,.no,.no,.at f (.list L)]
inductive LyJ(t:AV)(P:List Ah)(a f:bg)(m:Sp->Sp)(D:List (Ah×AV))(d r:List Ah):M->LS->Prop
 |mk (x:Option AV)(L:List AV)(hd:d++r=P)(e:L=(Dd d m).map pcA):LyJ t P a f m D d r (lyM t P a f x) (lyS a f D L)
theorem layM_len(P:List Sp)(m:Sp->Sp):(Dd P m).length<=P.length:=by
 unfold Dd;rw[aj];exact dA _ _
theorem Gh:Dd (d++[c]) m=Dd d m++Dd [c] m:=by
 unfold Dd;rw[gR,a9]
theorem lay_ok:Mh ⟨a6,ex,[(32,pureF keyF)],[(16,LB)],[]⟩ Ej .new 2 4 fLay:=by
 refine .specF λavs V K X h=>QH.casesOn h λt P a Ks m hz hK=>An hz λY O=>⟨rfl,λf=>⟨⟨rfl,rfl⟩,⟨rfl,rfl⟩,t,P,rfl,am Y (by decide),rfl,AS (r:=P) (g:=sp) rfl (LyJ t P a f m (fD (spm m) Ks)) (λd m' τ j=>?_) (λd c r m' τ j C B=>?_) (d:=[]) (.mk _ [] rfl rfl)⟩⟩
 .induction j using LyJ.casesOn with
  |mk x L y e =>
   rw[aF]at y;clear hz Y O;subst y;subst e;exact⟨rfl,hK⟩
 .induction j using LyJ.casesOn with
  |mk x L y e =>
   have T:c∈Ks:=O c (by rw[<- y];exact bF _ (.head _))
   have U:(d++[c])++r=P:=by rwa [aH]
   have u:L.length<=big:=Aq (by
    have h1:=layM_len d m;have h2:=Cd y;rw[e,aj];exact lin [P.length,(Dd d m).length,d.length] [] (.b V1 AD) [.b V0 K36,.b V1 V2,.c V2 V0] rfl Y h1 h2)
   refine⟨rfl,_,Ep T,ifB (λz=>?_) λz=>?_⟩
   .refine⟨rfl,rfl,_,Ep T,rfl,u,B _ _ (.mk _ _ U ?_)⟩
    have z:=(Kn c (m c)).symm.trans z;rw[Gh,a9,<- e];unfold Dd;rw[fq (p:=λc=>FV c (m c)) z];rfl
   .refine B _ _ (.mk _ _ U ?_)
    have z:=(Kn c (m c)).symm.trans z;rw[Gh,e];unfold Dd;rw[fu (p:=λc=>FV c (m c)) (by rw[z];decide)]
    simp
end
section
noncomputable def C1:At:=⟨[0x73000380001c0000da00067,0x1d0000e600066000318001b8000ec0006f,0x3a8001c0000e200074],2,[.ite (.or [.not (.call (.g 1) [.v 1,.g 7]),.cmp .NotEq (.call (.g 0) [.v 1]) (.call (.g 0) [.meth (.v 0) 18 []])]) [.ret (.bool a7)] [],.ite (.or [.not (.call (.g 15) [.comp (.call (.g 31) [.v 2]) 2 (.v 1) []]),.not (.call (.g 15) [.comp (.cmp .In (.v 2) (.v 1)) 2 (.meth (.v 0) 18 []) []])]) [.ret (.bool a7)] [],.ret (.call (.g 15) [.comp (.call (.g 30) [.sub (.v 1) (.v 2)]) 2 (.v 1) []])]⟩
noncomputable def Dw:At:=⟨[0x73000380001c0000da00067,0x1d0000e600066000318001b8000ec0006f,0xe600066000378001cc000e000064,0x36800188000e000068,0x3a80019c000cc0006d,0x75000348001a0000d400073,0x378001a0000d400074,0x38800198000ea00074],2,[.ite (.or [.not (.call (.g 49) [.v 0,.v 1]),.cmp .NotEq (.sub (.v 1) (.call (.g 46) [.v 0])) (.int 0)]) [.ret (.bool a7)] [],.for_ (.tup [.v 2,.v 3,.v 4,.v 5,.v 6]) (.call (.g 45) [.v 0]) [.assign (.v 7) (.bin .Sub (.sub (.v 1) (.v 3)) (.sub (.v 1) (.v 2))),.ite (.and [.cmp .NotEq (.v 7) (.v 6),.or [.cmp .NotEq (.v 7) (.bin .Mult (.neg (.int 3)) (.v 6)),.not (.meth (.v 0) 15 [.v 4]),.not (.meth (.v 0) 15 [.v 5])]]) [.ret (.bool a7)] []],.ret (.bool a6)]⟩
noncomputable def C0:At:=⟨[0x73000380001c0000da00067,0x1d0000e600066000318001b8000ec0006f,0x3a0001cc000cc0006f0003a8001cc000c400071,0xe600066000378001cc000e000064,0x36800188000e000068,0x3a80019c000cc0006d,0x75000348001a0000d400073,0x378001a0000d400074],2,[.ite (.not (.call (.g 50) [.v 0,.v 1])) [.raise (.call (.g 25) [.str "no heights of a laying"])] [],.assign (.v 2) (.mu 4 (.dict [] [])),.for_ (.tup [.v 3,.v 4,.v 5,.v 6,.v 7]) (.call (.g 45) [.v 0]) [.ite (.cmp .Eq (.call (.g 12) [.bin .Sub (.sub (.v 1) (.v 4)) (.sub (.v 1) (.v 3))]) (.int 3)) [.setitem (.v 2) (.v 5) (.v 6),.setitem (.v 2) (.v 6) (.v 5)] []],.ret (.mu 5 (.call (.g 40) [.v 0,.v 2]))]⟩
noncomputable def c_lchanged:At:=⟨[0x6600039800198000d2000600003a0001cc000cc00063000370001d8000de000600003c000188000da00060,0x6d00036800198000c8000600003c000188000da00060,0xca0006f0003b0001c0000ce000600003c000188000da00060,0x3a0001cc000cc0006f000398001c0000c8000600003c000188000da00060,0xd8000600003c000188000da00060,0x1cc000cc0006f000398001c0000c8000600003c000188000da00060,0x1e8000c6000600003c000188000da00060,0x65000378001a8000d8000600003c000188000da00060],2,[.assign (.v 2) (.mu 4 (.call (.g 7) [.v 0])),.assign (.v 3) (.call (.g 5) [.v 0]),.for_ (.v 4) (.call (.g 8) [.bin .Add (.int 1) (.bin .Mod (.v 1) (.int 2))]) [.assign (.v 5) (.sub (.v 3) (.bin .Mod (.call (.g 73) [.v 1,.v 4]) (.call (.g 0) [.v 3]))),.assign (.v 6) (.sub (.list [.int 4,.neg (.int 4),.int 4,.neg (.int 4),.bin .Add (.int 1) (.bin .Mod (.bin .FloorDiv (.v 1) (.int 90)) (.int 9))]) (.bin .Mod (.bin .FloorDiv (.v 1) (.int 2)) (.int 5))),.setitem (.v 2) (.v 5) (.bin .Add (.sub (.v 2) (.v 5)) (.v 6))],.assign (.v 7) (.bin .Mod (.bin .FloorDiv (.v 1) (.int 10)) (.int 9)),.ite (.cmp .Eq (.v 7) (.int 4)) [.ret (.call (.g 7) [.comp (.tup [.v 5,.bin .Add (.bin .Add (.sub (.v 0) (.v 5)) (.int 1)) (.bin .Mod (.bin .FloorDiv (.v 1) (.int 90)) (.int 4))]) 5 (.v 0) []])] [],.ite (.cmp .Eq (.v 7) (.int 5)) [.expr (.meth (.v 2) 1 [.sub (.v 3) (.bin .Mod (.bin .FloorDiv (.v 1) (.int 90)) (.call (.g 0) [.v 3]))])] [],.ite (.cmp .Eq (.v 7) (.int 6)) [.setitem (.v 2) (.tup [.int 9,.int 9]) (.int 0)] [],.ite (.cmp .Eq (.v 7) (.int 7)) [.setitem (.v 2) (.sub (.v 3) (.bin .Mod (.bin .FloorDiv (.v 1) (.int 90)) (.call (.g 0) [.v 3]))) (.sub (.list [.bool a6,.str "1",.none]) (.bin .Mod (.bin .FloorDiv (.v 1) (.int 900)) (.int 3)))] [],.ite (.cmp .Eq (.v 7) (.int 8)) [.ret (.sub (.list [.none,.list [],.str "a",.call (.g 5) [.v 0],.int 5]) (.bin .Mod (.bin .FloorDiv (.v 1) (.int 90)) (.int 5)))] [],.ret (.v 2)]⟩
noncomputable def c_lback:At:=⟨[0x740003c0001c0000e6000600003c000188000da00060,0xe80007300035000188000e2000600003c000188000da00060,0x6600039800198000d2000600003a0001cc000cc00063000370001d8000de000600003c000188000da00060,0xde0006a000310001b4000e2000600003c000188000da00060,0x6d00036800198000c8000600003c000188000da00060,0x330001bc000e0000600003c000188000da00060,0xca0006f0003b0001c0000ce000600003c000188000da00060,0x1e8000ca00070000318001c0000de000600003c000188000da00060,0xf2000600003c000188000da00060,0xf4000600003c000188000da00060,0x3d000188000f0000600003c000188000da00060,0xcc00073000330001a4000c000071000330001d4000e8000600003c000188000da00060,0x660003a0001a8000e6000600003c000188000da00060],3,[.assign (.v 3) (.call (.g 105) [.call (.g 7) [.comp (.tup [.v 4,.none]) 4 (.v 1) []]]),.ite (.or [.not (.call (.g 1) [.v 2,.g 7]),.cmp .NotEq (.call (.g 0) [.v 2]) (.call (.g 0) [.v 3]),.not (.call (.g 15) [.comp (.cmp .In (.v 5) (.v 2)) 5 (.v 3) []])]) [.ret .none] [],.ite (.call (.g 16) [.comp (.or [.not (.call (.g 1) [.sub (.v 2) (.v 5),.g 2]),.call (.g 1) [.sub (.v 2) (.v 5),.g 3]]) 5 (.v 3) []]) [.ret .none] [],.ite (.cmp .NotEq (.sub (.v 2) (.sub (.sorted (.call (.g 5) [.v 1]) (.g 89)) (.int 0))) (.int 0)) [.ret .none] [],.assign (.v 6) (.mu 4 (.dict [] [])),.assign (.v 7) (.call (.g 7) [.comp (.tup [.v 4,.none]) 4 (.v 1) []]),.for_ (.tup [.v 8,.v 9]) (.v 3) [.for_ (.tup [.v 10,.v 5]) (.list [.tup [.tup [.int 1,.int 0],.tup [.v 8,.bin .Sub (.v 9) (.int 1)]],.tup [.tup [.int 0,.int 1],.tup [.bin .Sub (.v 8) (.int 1),.v 9]]]) [.assign (.v 11) (.call (.g 104) [.v 7,.tup [.v 8,.v 9],.v 10]),.assign (.v 12) (.bin .Sub (.meth (.v 2) 6 [.tup [.bin .Add (.v 8) (.sub (.v 10) (.int 0)),.bin .Add (.v 9) (.sub (.v 10) (.int 1))],.int 0]) (.sub (.v 2) (.tup [.v 8,.v 9]))),.ite (.and [.cmp .IsNot (.v 11) .none,.cmp .NotEq (.v 12) (.v 11)]) [.ite (.or [.cmp .NotIn (.v 5) (.v 1),.cmp .NotIn (.tup [.v 8,.v 9]) (.v 1),.cmp .NotEq (.v 12) (.bin .Mult (.neg (.int 3)) (.v 11))]) [.ret .none] [],.setitem (.v 6) (.v 5) (.tup [.v 8,.v 9]),.setitem (.v 6) (.tup [.v 8,.v 9]) (.v 5)] []]],.ret (.v 6)]⟩
noncomputable def GF:At:=⟨[0xe600070000380001b4000ce000600003c000188000da00060,0x6600039800198000d2000600003a0001cc000cc00063000370001d8000de000600003c000188000da00060,0xe600070000398001cc000cc000600003c000188000da00060],2,[.try_ [.ret (.list [.mu 4 (.call (.g 51) [.v 0,.v 1]),.bool a6])] (.g 18) (a0 2) [.ret (.list [.none,.call (.g 79) [.v 2,.int 6]])]]⟩
noncomputable def c_law5:At:=⟨[0x1d4000e20006a00039800190000e8000600003c000188000da00060,0x740003c0001c0000e6000600003c000188000da00060,0xe80007300035000188000e2000600003c000188000da00060,0xe600070000380001b4000ce000600003c000188000da00060,0x6600039800198000d2000600003a0001cc000cc00063000370001d8000de000600003c000188000da00060,0x6d00036800198000c8000600003c000188000da00060,0x330001d8000ca000600003c000188000da00060,0x330001cc000cc0006900030000194000cc0006500037800188000d2000600003c000188000da00060,0xcc00073000330001a4000c000065000368001c0000ea000600003c000188000da00060,0xca0006f0003b0001c0000ce000600003c000188000da00060,0xe600066000348001d4000e0000600003c000188000da00060,0xcc00073000330001a4000ea000600003a0001cc000cc00063000370001d8000de000600003c000188000da00060],1,[.assign (.tup [.v 1,.v 2]) (.call (.g 88) [.v 0]),.assign (.v 2) (.call (.g 87) [.v 2,.call (.g 72) [.v 0,.int 2],.bin .Mod (.call (.g 72) [.v 0,.int 3]) (.int 61)]),.assign (.v 3) (.call (.g 29) [.mu 5 (.call (.g 5) [.v 1])]),.assign (.v 4) (.call (.g 105) [.v 2]),.assign (.v 5) (.call (.g 12) [.call (.g 72) [.v 0,.int 5]]),.ite (.cmp .Gt (.bin .Mod (.v 5) (.int 3)) (.int 0)) [.assign (.v 4) (.call (.g 107) [.v 4,.bin .FloorDiv (.v 5) (.int 3)])] [],.assign (.v 6) (.call (.g 108) [.v 1,.v 2,.v 4]),.assign (.v 7) (.ite (.call (.g 1) [.v 4,.g 7]) (.call (.g 7) [.v 4]) (.v 4)),.assign (.v 8) (.call (.g 50) [.v 3,.v 7]),.ite (.or [.and [.cmp .IsNot (.v 8) (.bool a6),.cmp .IsNot (.v 8) (.bool a7)],.cmp .NotEq (.v 8) (.cmp .IsNot (.v 6) .none)]) [.ret (.bool a7)] [],.assign (.v 9) (.mu 4 (.call (.g 101) [.v 3,.v 7])),.ite (.or [.cmp .NotEq (.v 7) (.v 4),.not (.sub (.v 9) (.int 1))]) [.ret (.bool a7)] [],.assign (.v 10) (.call (.g 87) [.v 2,.call (.g 72) [.v 0,.int 6],.int 9]),.assign (.v 11) (.call (.g 105) [.v 10]),.ite (.or [.cmp .IsNot (.call (.g 50) [.v 3,.v 11]) (.bool a6),.cmp .NotEq (.call (.g 51) [.v 3,.v 11]) (.call (.g 90) [.v 10])]) [.ret (.bool a7)] [],.ite (.cmp .NotEq (.call (.g 50) [.v 3,.v 7]) (.cmp .IsNot (.v 6) .none)) [.ret (.bool a7)] [],.ite (.cmp .Is (.v 6) .none) [.ret (.cmp .Is (.sub (.v 9) (.int 0)) .none)] [],.ite (.or [.not (.call (.g 1) [.sub (.v 9) (.int 0),.g 5]),.cmp .NotEq (.sub (.v 9) (.int 0)) (.call (.g 90) [.v 6])]) [.ret (.bool a7)] [],.expr (.meth (.sub (.v 9) (.int 0)) 3 []),.ret (.cmp .Eq (.call (.g 51) [.v 3,.v 7]) (.call (.g 90) [.v 6]))]⟩
end
section
noncomputable def stZ(h:Sp->Int)(z:Sp×Bool):Int:=h (goS z) - h z.1
def Fit(P:List Sp)(h:Sp->Int)(z:Sp×Bool):Prop:=stZ h z=sg (lfS z)\/(stZ h z=-3 * sg (lfS z)/\lfS z∈P/\rtS z∈P)
def Goo(P:List Sp)(h:Sp->Int):Prop:=∀z,Ew P z->Fit P h z
noncomputable def mOf(h:Sp->Int)(k:Sp):Sp :=
 if h (k.1+1,k.2) - h k=3 * sg k then (k.1,k.2 - 1)
 else if h (k.1,k.2+1) - h k=-3 * sg k then (k.1 - 1,k.2)
 else if h (k.1+1,k.2+1) - h (k.1,k.2+1)=-3 * sg k then (k.1,k.2+1)
 else (k.1+1,k.2)
theorem Dy(n:s≠0){P:Prop}{k:Int}(e:k * s=0)(B:k≠0):P:=((Int.mul_eq_zero.mp e).elim B n).elim
theorem four5{s a b c d:Int}(n:s≠0)(T:a=-s\/a=3 * s)(z:b=s\/b=-3 * s)(Y:c=s\/c=-3 * s)(y:d=-s\/d=3 * s)(e:a+d=b+c) :
  (a=3 * s/\b=s/\c=s/\d=-s)\/(a=-s/\b=-3 * s/\c=s/\d=-s)\/(a=-s/\b=s/\c=-3 * s/\d=-s)\/(a=-s/\b=s/\c=s/\d=3 * s):=by
 rcases T with T|T<;>rcases y with y|y<;>rw[T,y]at e<;>rcases z with z|z<;>rcases Y with Y|Y<;>rw[z,Y]at e
 .exact Dy (k:=4) n (af (lin [] [s] (.f (.M 4 V0) K0) [.H (-1) (.A (.N V0) (.N V0)) (.A V0 V0)] rfl e) (lin [] [s] (.f K0 (.M 4 V0)) [.h (.A (.N V0) (.N V0)) (.A V0 V0)] rfl e)) (by decide)
 .exact .inr (.inr (.inl ⟨T,z,Y,y⟩))
 .exact .inr (.inl ⟨T,z,Y,y⟩)
 .exact Dy (k:=4) n (af (lin [] [s] (.f (.M 4 V0) K0) [.h (.A (.N V0) (.N V0)) (.A (.M (-3) V0) (.M (-3) V0))] rfl e) (lin [] [s] (.f K0 (.M 4 V0)) [.H (-1) (.A (.N V0) (.N V0)) (.A (.M (-3) V0) (.M (-3) V0))] rfl e)) (by decide)
 .exact .inr (.inr (.inr ⟨T,z,Y,y⟩))
 .exact Dy (k:=4) n (af (lin [] [s] (.f (.M 4 V0) K0) [.h (.A (.N V0) (.M 3 V0)) (.A V0 (.M (-3) V0))] rfl e) (lin [] [s] (.f K0 (.M 4 V0)) [.H (-1) (.A (.N V0) (.M 3 V0)) (.A V0 (.M (-3) V0))] rfl e)) (by decide)
 .exact Dy (k:=4) n (af (lin [] [s] (.f (.M 4 V0) K0) [.h (.A (.N V0) (.M 3 V0)) (.A (.M (-3) V0) V0)] rfl e) (lin [] [s] (.f K0 (.M 4 V0)) [.H (-1) (.A (.N V0) (.M 3 V0)) (.A (.M (-3) V0) V0)] rfl e)) (by decide)
 .exact Dy (k:=8) n (af (lin [] [s] (.f (.M 8 V0) K0) [.h (.A (.N V0) (.M 3 V0)) (.A (.M (-3) V0) (.M (-3) V0))] rfl e) (lin [] [s] (.f K0 (.M 8 V0)) [.H (-1) (.A (.N V0) (.M 3 V0)) (.A (.M (-3) V0) (.M (-3) V0))] rfl e)) (by decide)
 .exact .inl ⟨T,z,Y,y⟩
 .exact Dy (k:=4) n (af (lin [] [s] (.f (.M 4 V0) K0) [.h (.A (.M 3 V0) (.N V0)) (.A V0 (.M (-3) V0))] rfl e) (lin [] [s] (.f K0 (.M 4 V0)) [.H (-1) (.A (.M 3 V0) (.N V0)) (.A V0 (.M (-3) V0))] rfl e)) (by decide)
 .exact Dy (k:=4) n (af (lin [] [s] (.f (.M 4 V0) K0) [.h (.A (.M 3 V0) (.N V0)) (.A (.M (-3) V0) V0)] rfl e) (lin [] [s] (.f K0 (.M 4 V0)) [.H (-1) (.A (.M 3 V0) (.N V0)) (.A (.M (-3) V0) V0)] rfl e)) (by decide)
 .exact Dy (k:=8) n (af (lin [] [s] (.f (.M 8 V0) K0) [.h (.A (.M 3 V0) (.N V0)) (.A (.M (-3) V0) (.M (-3) V0))] rfl e) (lin [] [s] (.f K0 (.M 8 V0)) [.H (-1) (.A (.M 3 V0) (.N V0)) (.A (.M (-3) V0) (.M (-3) V0))] rfl e)) (by decide)
 .exact Dy (k:=4) n (af (lin [] [s] (.f (.M 4 V0) K0) [.h (.A (.M 3 V0) (.M 3 V0)) (.A V0 V0)] rfl e) (lin [] [s] (.f K0 (.M 4 V0)) [.H (-1) (.A (.M 3 V0) (.M 3 V0)) (.A V0 V0)] rfl e)) (by decide)
 .exact Dy (k:=8) n (af (lin [] [s] (.f (.M 8 V0) K0) [.h (.A (.M 3 V0) (.M 3 V0)) (.A V0 (.M (-3) V0))] rfl e) (lin [] [s] (.f K0 (.M 8 V0)) [.H (-1) (.A (.M 3 V0) (.M 3 V0)) (.A V0 (.M (-3) V0))] rfl e)) (by decide)
 .exact Dy (k:=8) n (af (lin [] [s] (.f (.M 8 V0) K0) [.h (.A (.M 3 V0) (.M 3 V0)) (.A (.M (-3) V0) V0)] rfl e) (lin [] [s] (.f K0 (.M 8 V0)) [.H (-1) (.A (.M 3 V0) (.M 3 V0)) (.A (.M (-3) V0) V0)] rfl e)) (by decide)
 .exact Dy (k:=12) n (af (lin [] [s] (.f (.M 12 V0) K0) [.h (.A (.M 3 V0) (.M 3 V0)) (.A (.M (-3) V0) (.M (-3) V0))] rfl e) (lin [] [s] (.f K0 (.M 12 V0)) [.H (-1) (.A (.M 3 V0) (.M 3 V0)) (.A (.M (-3) V0) (.M (-3) V0))] rfl e)) (by decide)
inductive Big(P:List Sp)(h:Sp->Int)(x y:Int):Prop
 |u (e:mOf h (x,y)=(x,y - 1))(i:(x,y - 1)∈P)(h1:h (x+1,y) - h (x,y)=3 * sg (x,y))(h2:h (x,y+1) - h (x,y)=sg (x,y))(h3:h (x+1,y+1) - h (x,y+1)=sg (x,y))(h4:h (x+1,y+1) - h (x+1,y)=- sg (x,y)):Big P h x y
 |l (e:mOf h (x,y)=(x - 1,y))(i:(x - 1,y)∈P)(h1:h (x+1,y) - h (x,y)=- sg (x,y))(h2:h (x,y+1) - h (x,y)=-3 * sg (x,y))(h3:h (x+1,y+1) - h (x,y+1)=sg (x,y))(h4:h (x+1,y+1) - h (x+1,y)=- sg (x,y)):Big P h x y
 |d (e:mOf h (x,y)=(x,y+1))(i:(x,y+1)∈P)(h1:h (x+1,y) - h (x,y)=- sg (x,y))(h2:h (x,y+1) - h (x,y)=sg (x,y))(h3:h (x+1,y+1) - h (x,y+1)=-3 * sg (x,y))(h4:h (x+1,y+1) - h (x+1,y)=- sg (x,y)):Big P h x y
 |r (e:mOf h (x,y)=(x+1,y))(i:(x+1,y)∈P)(h1:h (x+1,y) - h (x,y)=- sg (x,y))(h2:h (x,y+1) - h (x,y)=sg (x,y))(h3:h (x+1,y+1) - h (x,y+1)=sg (x,y))(h4:h (x+1,y+1) - h (x+1,y)=3 * sg (x,y)):Big P h x y
theorem Goo.big(G:Goo P h)(B:(x,y)∈P):Big P h x y:=by
 have s1:sg (x,y - 1)=- sg (x,y):=BL CG;have s2:sg (x+1,y)=- sg (x,y):=BL (AI .r);have Y:=G ((x,y),a7) (.inr B);have T:=G ((x,y),a6) (.inl B);have O:=G ((x,y+1),a7) (.inl (by show (x,y+1 - 1)∈P;rwa [bI]))
 have z:=G ((x+1,y),a6) (.inr (by show (x+1 - 1,y)∈P;rwa [bI]))
 have Y:h (x+1,y) - h (x,y)=sg (x,y - 1)\/(h (x+1,y) - h (x,y)=-3 * sg (x,y - 1)/\(x,y - 1)∈P/\(x,y)∈P):=Y;have T:h (x,y+1) - h (x,y)=sg (x,y)\/(h (x,y+1) - h (x,y)=-3 * sg (x,y)/\(x,y)∈P/\(x - 1,y)∈P):=T;have O:h (x+1,y+1) - h (x,y+1)=sg (x,y+1 - 1)\/(h (x+1,y+1) - h (x,y+1)=-3 * sg (x,y+1 - 1)/\(x,y+1 - 1)∈P/\(x,y+1)∈P):=O;have z:h (x+1,y+1) - h (x+1,y)=sg (x+1,y)\/(h (x+1,y+1) - h (x+1,y)=-3 * sg (x+1,y)/\(x+1,y)∈P/\(x+1 - 1,y)∈P):=z;rw[bI]at O;rw[s1]at Y;rw[s2]at z;have sc:=B9 (x,y);have n3:-3 * -sg (x,y)=3 * sg (x,y):=by exact af (lin [] [sg (x,y)] (.f (.M (-3) (.N V0)) (.M 3 V0)) [] rfl) (lin [] [sg (x,y)] (.f (.M 3 V0) (.M (-3) (.N V0))) [] rfl)
 rw[n3]at Y z;have cl:(h (x+1,y) - h (x,y))+(h (x+1,y+1) - h (x+1,y))=(h (x,y+1) - h (x,y))+(h (x+1,y+1) - h (x,y+1)):=by exact af (lin [] [h (x+1,y),h (x,y),h (x+1,y+1),h (x,y+1)] (.f (.A (.S V0 V1) (.S V2 V0)) (.A (.S V3 V1) (.S V2 V3))) [] rfl) (lin [] [h (x,y+1),h (x,y),h (x+1,y+1),h (x+1,y)] (.f (.A (.S V0 V1) (.S V2 V0)) (.A (.S V3 V1) (.S V2 V3))) [] rfl)
 have ne:∀{a:Int},a=- sg (x,y)->a≠3 * sg (x,y):=λe=>by clear Y T O z cl;omega
 have U:∀{a:Int},a=sg (x,y)->a≠-3 * sg (x,y):=λe=>by clear Y T O z cl;omega
 rcases four5 (s:=sg (x,y)) (by rcases sc with q|q<;>rw[q]<;>decide) (Y.imp id And.left) (T.imp id And.left) (O.imp id And.left) (z.imp id And.left) cl with⟨h1,h2,h3,h4⟩|⟨h1,h2,h3,h4⟩|⟨h1,h2,h3,h4⟩|⟨h1,h2,h3,h4⟩
 .exact .u (if_pos h1) (Y.elim (λe=>absurd h1 (ne e)) λe=>e.2.1) h1 h2 h3 h4
 .exact .l ((if_neg (ne h1)).trans (if_pos h2)) (T.elim (λe=>absurd h2 (U e)) λe=>e.2.2) h1 h2 h3 h4
 .exact .d ((if_neg (ne h1)).trans ((if_neg (U h2)).trans (if_pos h3))) (O.elim (λe=>absurd h3 (U e)) λe=>e.2.2) h1 h2 h3 h4
 .exact .r ((if_neg (ne h1)).trans ((if_neg (U h2)).trans (if_neg (U h3)))) (z.elim (λe=>absurd h4 (ne e)) λe=>e.2.1) h1 h2 h3 h4
theorem Goo.u(G:Goo P h)(d:(x,y)∈P)(e:h (x+1,y) - h (x,y)=3 * sg (x,y)):mOf h (x,y)=(x,y - 1):=if_pos e
theorem Goo.l(G:Goo P h)(U:(x,y)∈P):h (x,y+1) - h (x,y)=-3 * sg (x,y)↔mOf h (x,y)=(x - 1,y):=by
 have sc:=B9 (x,y)
 cases G.big U with|u e i B z Y O=>rw[e];exact⟨λq=>by omega,λq=>by have:x=x - 1:=congrArg dK q;exact af (lin [] [x,h (x,y+1),h (x,y),sg (x,y)] (.F 0 (.S V1 V2) (.M (-3) V3)) [.h V0 (.S V0 K1)] rfl this) (lin [] [x,sg (x,y),h (x,y+1),h (x,y)] (.F 0 (.M (-3) V1) (.S V2 V3)) [.h V0 (.S V0 K1)] rfl this)⟩|l e i B z Y O=>exact⟨λZ=>e,λZ=>z⟩|d e i B z Y O=>rw[e];exact⟨λq=>by omega,λq=>by have:x=x - 1:=congrArg dK q;exact af (lin [] [x,h (x,y+1),h (x,y),sg (x,y)] (.F 0 (.S V1 V2) (.M (-3) V3)) [.h V0 (.S V0 K1)] rfl this) (lin [] [x,sg (x,y),h (x,y+1),h (x,y)] (.F 0 (.M (-3) V1) (.S V2 V3)) [.h V0 (.S V0 K1)] rfl this)⟩|r e i B z Y O=>rw[e];exact⟨λq=>by omega,λq=>by have:x+1=x - 1:=congrArg dK q;exact af (lin [] [x,h (x,y+1),h (x,y),sg (x,y)] (.F 0 (.S V1 V2) (.M (-3) V3)) [.h (.A V0 K1) (.S V0 K1)] rfl this) (lin [] [x,sg (x,y),h (x,y+1),h (x,y)] (.F 0 (.M (-3) V1) (.S V2 V3)) [.h (.A V0 K1) (.S V0 K1)] rfl this)⟩
theorem Goo.d(G:Goo P h)(U:(x,y)∈P):h (x+1,y+1) - h (x,y+1)=-3 * sg (x,y)↔mOf h (x,y)=(x,y+1):=by
 have sc:=B9 (x,y)
 cases G.big U with|u e i O z Y B=>rw[e];exact⟨λq=>by omega,λq=>by have:y - 1=y+1:=congrArg eu q;exact af (lin [] [y,h (x+1,y+1),h (x,y+1),sg (x,y)] (.F 0 (.S V1 V2) (.M (-3) V3)) [.H (-1) (.S V0 K1) (.A V0 K1)] rfl this) (lin [] [y,sg (x,y),h (x+1,y+1),h (x,y+1)] (.F 0 (.M (-3) V1) (.S V2 V3)) [.H (-1) (.S V0 K1) (.A V0 K1)] rfl this)⟩|l e i O z Y B=>rw[e];exact⟨λq=>by omega,λq=>by have:y=y+1:=congrArg eu q;exact af (lin [] [y,h (x+1,y+1),h (x,y+1),sg (x,y)] (.F 0 (.S V1 V2) (.M (-3) V3)) [.H (-1) V0 (.A V0 K1)] rfl this) (lin [] [y,sg (x,y),h (x+1,y+1),h (x,y+1)] (.F 0 (.M (-3) V1) (.S V2 V3)) [.H (-1) V0 (.A V0 K1)] rfl this)⟩|d e i O z Y B=>exact⟨λZ=>e,λZ=>Y⟩|r e i O z Y B=>rw[e];exact⟨λq=>by omega,λq=>by have:y=y+1:=congrArg eu q;exact af (lin [] [y,h (x+1,y+1),h (x,y+1),sg (x,y)] (.F 0 (.S V1 V2) (.M (-3) V3)) [.H (-1) V0 (.A V0 K1)] rfl this) (lin [] [y,sg (x,y),h (x+1,y+1),h (x,y+1)] (.F 0 (.M (-3) V1) (.S V2 V3)) [.H (-1) V0 (.A V0 K1)] rfl this)⟩
theorem Goo.r(G:Goo P h)(U:(x,y)∈P)(q:h (x+1,y+1) - h (x+1,y)=3 * sg (x,y)):mOf h (x,y)=(x+1,y):=by
 have sc:=B9 (x,y)
 cases G.big U with|u e i B T Y z=>omega|l e i B T Y z=>omega|d e i B T Y z=>omega|r e i B T Y z=>exact e
theorem Goo.mt(G:Goo P h):Mt P (mOf h):=λk B=>by
 obtain⟨x,y⟩:=k
 cases G.big B with
 |u e i U z Y O =>
  rw[e];refine⟨nbP_mem.mpr ⟨B,AI .u,i⟩,?_⟩
  have:=(G.d i).mp (by rw[aN,U,BL CG];exact af (lin [] [sg (x,y)] (.f (.M 3 V0) (.M (-3) (.N V0))) [] rfl) (lin [] [sg (x,y)] (.f (.M (-3) (.N V0)) (.M 3 V0)) [] rfl))
  rwa [aN]at this
 |l e i U z Y O =>
  rw[e];refine⟨nbP_mem.mpr ⟨B,AI .l,i⟩,?_⟩
  have:=G.r i (by rw[aN,z,BL Do];exact af (lin [] [sg (x,y)] (.f (.M (-3) V0) (.M 3 (.N V0))) [] rfl) (lin [] [sg (x,y)] (.f (.M 3 (.N V0)) (.M (-3) V0)) [] rfl))
  rwa [aN]at this
 |d e i U z Y O =>
  rw[e];refine⟨nbP_mem.mpr ⟨B,AI .d,i⟩,?_⟩
  have:=G.u i (by rw[Y,BL (AI .d)];exact af (lin [] [sg (x,y)] (.f (.M (-3) V0) (.M 3 (.N V0))) [] rfl) (lin [] [sg (x,y)] (.f (.M 3 (.N V0)) (.M (-3) V0)) [] rfl))
  rwa [bI]at this
 |r e i U z Y O =>
  rw[e];refine⟨nbP_mem.mpr ⟨B,AI .r,i⟩,?_⟩
  have:=(G.l i).mp (by rw[O,BL (AI .r)];exact af (lin [] [sg (x,y)] (.f (.M 3 V0) (.M (-3) (.N V0))) [] rfl) (lin [] [sg (x,y)] (.f (.M (-3) (.N V0)) (.M 3 V0)) [] rfl))
  rwa [bI]at this
theorem Goo.ht(G:Goo P h):HT P (mOf h) h:=by
 refine⟨λx y q=>?_,λx y q=>?_⟩
 .have g:=G ((x,y),a7) q
  unfold stp
  by_cases z:(x,y - 1)∈P/\mOf h (x,y - 1)=(x,y)
  .rw[if_pos z]
   have:=(G.d z.1).mpr (by rw[aN];exact z.2)
   rwa [aN]at this
  .rw[if_neg z]
   refine g.elim id λw=>absurd ⟨w.2.1,?_⟩ z
   have:=(G.d w.2.1).mp (by show h (x+1,y - 1+1) - h (x,y - 1+1)=_;rw[aN];exact w.1)
   have this:mOf h (x,y - 1)=(x,y - 1+1):=this
   rwa [aN]at this
 .have g:=G ((x,y),a6) q
  unfold stp
  by_cases z:(x,y)∈P/\mOf h (x,y)=(x - 1,y)
  .rw[if_pos z]
   exact(G.l z.1).mpr z.2
  .rw[if_neg z]
   exact g.elim id λw=>absurd ⟨w.2.1,(G.l w.2.1).mp w.1⟩ z
theorem HT.stZ(H:HT P m h)(q:Ew P z):stZ h z=stp P m (lfS z) (rtS z):=by
 obtain⟨⟨x,y⟩,b⟩:=z
 cases b with|false=>exact H.r x y q|true=>exact H.d x y q
theorem HT.goo(H:HT P m h)(M:Mt P m):Goo P h:=λz q=>by
 unfold Fit;rw[H.stZ q];unfold stp
 by_cases c:lfS z∈P/\m (lfS z)=rtS z
 .rw[if_pos c]
  exact .inr ⟨rfl,c.1,by rw[<- c.2];exact(nbP_mem.mp (M _ c.1).1).2.2⟩
 .rw[if_neg c];exact .inl rfl
theorem HT.three(H:HT P m h)(q:Ew P z):((Internal.stZ h z).natAbs:Int)=3↔lfS z∈P/\m (lfS z)=rtS z:=by
 rw[H.stZ q];have sc:=B9 (lfS z);unfold stp
 by_cases c:lfS z∈P/\m (lfS z)=rtS z
 .rw[if_pos c];exact⟨λZ=>c,λZ=>by rcases sc with q|q<;>rw[q]<;>rfl⟩
 .rw[if_neg c];exact⟨λw=>absurd w (by rcases sc with q|q<;>rw[q]<;>decide),λw=>absurd w c⟩
theorem HT.other(H:HT P m h)(q:Ew P z):Internal.stZ h z≠sg (lfS z)↔lfS z∈P/\m (lfS z)=rtS z:=by
 rw[H.stZ q];have sc:=B9 (lfS z);unfold stp
 by_cases c:lfS z∈P/\m (lfS z)=rtS z
 .rw[if_pos c];exact⟨λZ=>c,λZ=>by exact λy=>sc.elim (λO=>lin [] [sg (lfS z)] .no [.H (-1) (.M (-3) V0) V0,.H (-4) V0 K1] rfl y O) (λO=>lin [] [sg (lfS z)] .no [.h (.M (-3) V0) V0,.H 4 V0 Km1] rfl y O)⟩
 .rw[if_neg c];exact⟨λw=>absurd rfl w,λw=>absurd w c⟩
theorem side_of(h:b∈A8 a):∃z:Sp×Bool,(lfS z=a/\rtS z=b)\/(lfS z=b/\rtS z=a):=by
 obtain⟨x,y⟩:=a
 cases DZ h with|u=>exact⟨((x,y),a7),.inr ⟨rfl,rfl⟩⟩|l=>exact⟨((x,y),a6),.inl ⟨rfl,rfl⟩⟩|r=>exact⟨((x+1,y),a6),.inr ⟨rfl,by show (x+1 - 1,y)=(x,y);rw[bI]⟩⟩|d=>exact⟨((x,y+1),a7),.inl ⟨by show (x,y+1 - 1)=(x,y);rw[bI],rfl⟩⟩
theorem C9(B:Cor P C)(q:Ew P z):z.1∈C/\goS z∈C:=by
 obtain⟨⟨x,y⟩,b⟩:=z;have up:∀v:Int,v=v - 1+1:=λv=>(aN v 1).symm;rw[B.mem,B.mem]
 cases b with|false=>exact q.elim (λq=>⟨⟨_,q,A3 (.inl rfl) (.inr (up y))⟩,_,q,A3 (.inr rfl) (.inr (up y))⟩) λq=>⟨⟨_,q,A3 (.inl rfl) (.inl rfl)⟩,_,q,A3 (.inr rfl) (.inl rfl)⟩|true=>exact q.elim (λq=>⟨⟨_,q,A3 (.inl rfl) (.inl rfl)⟩,_,q,A3 (.inl rfl) (.inr rfl)⟩) λq=>⟨⟨_,q,A3 (.inr (up x)) (.inl rfl)⟩,_,q,A3 (.inr (up x)) (.inr rfl)⟩
theorem Mt.side(M:Mt P m)(B:k∈P):∃z,(lfS z∈P/\m (lfS z)=rtS z)/\(k=lfS z\/k=rtS z):=by
 refine An (M k B) λy Y=>Bo (nbP_mem.mp y) λZ n i=>?_;obtain⟨z,⟨u,T⟩|⟨u,T⟩⟩:=side_of n
 .exact⟨z,⟨by rwa [u],by rw[u,T]⟩,.inl u.symm⟩
 .exact⟨z,⟨by rwa [u],by rw[u,T];exact Y⟩,.inr T.symm⟩
end
section
noncomputable def pvo:Option (Sp->Sp)->Ah->AV
 |some m,k=>sp (m k)
 |aa,_=>.none
noncomputable def spo(Ks:List Sp):Option (Sp->Sp)->Sp->Sp->Int
 |some m,l,r=>stp Ks m l r
 |aa,l,_=>sg l
inductive QP(K:KR):List AV->LS->Prop
 |mk (Ks:List Sp)(mo:Option (Sp->Sp))(x y:Int)(w o l r:Sp)(c0:Hd x y w o l r/\x.natAbs<=1000/\y.natAbs<=1000)(c1:l∈Ks\/r∈Ks->K ⟨[],.val (.int (spo Ks mo l r))⟩ [])(c2:¬(l∈Ks\/r∈Ks)->K ⟨[],.val .none⟩ []):QP K [.dict (fD (pvo mo) Ks),sp (x,y),sp w] []
noncomputable def Lv:FS:=specF λavs V K Z=>QP K avs V
theorem F1{K:KR}(h:K ⟨[],.val (.int (spo Ks mo l r))⟩ []) :
  wpSs t0 (c_lstep.body.drop 4) X (stM (fD (pvo mo) Ks) x y w l r (a0 (.bool (dark l))) aa) [] (λfl Z τ=>CA .val 0 (flV fl) τ K):=by
 cases mo with
 |some m=>exact step_end (Ks:=Ks) (m:=m) h
 |none =>
  have Y:wpSs t0 (c_lstep.body.drop 5) X (stM (fD (pvo aa) Ks) x y w l r (a0 (.bool (dark l))) (a0 (.int (sg l)))) [] (λfl Z τ=>CA .val 0 (flV fl) τ K):=by
   by_cases q:l∈Ks
   .exact⟨a6,Jk q,_,Ep q,a7,.py ⟨.none,IV r,rfl,rfl,rfl,rfl,rfl⟩,h⟩
   .exact⟨a7,DT q,h⟩
  rw[sg_if]at Y;generalize dark l=b at Y ⊢
  cases b with|true=>exact Y|false=>exact Y
theorem step5_ok:Mh t0 c_lstep .val 6 0 Lv:=by
 refine .specF λavs V K X h=>QP.casesOn h λKs mo x y w o l r hz Y O=>Bo hz λB hx hy=>?_;have rest:wpSs t0 (c_lstep.body.drop 2) X (stM (fD (pvo mo) Ks) x y w l r aa aa) [] (λfl Z τ=>CA .val 0 (flV fl) τ K):=by
  refine An (B.abs hx hy) λbl br=>?_;have U:=near_odd B.near
  by_cases q:l∈Ks
  .exact⟨a6,Jk q,a6,Jk q,bl,F1 (Y (.inl q))⟩
  .by_cases T:r∈Ks
   .have:=F1 (X:=X) (x:=x) (y:=y) (w:=w) (Y (.inr T))
    rw[<- U]at this;exact⟨a7,DT q,a6,Jk T,a7,DT q,br,this⟩
   .exact⟨a7,DT q,a7,DT T,O λz=>z.elim q T⟩
 clear h Y O
 induction B using Hd.casesOn with|r=>exact⟨rfl,_,rfl,rest⟩|d=>exact⟨rfl,_,rfl,rest⟩|l=>exact⟨rfl,_,rfl,rest⟩|u=>exact⟨rfl,_,rfl,rest⟩
noncomputable def iD(g:Sp->Int)(l:List Sp):List (Ah×AV):=fD (λk=>.int (g k)) l
noncomputable def upI(g:Sp->Int)(o:Sp)(v:Int)(k:Sp):Int:=if k=o then v else g k
theorem iD_put{g:Sp->Int}(h:o∉l):Bs (iD g l) o (.int v)=iD (upI g o v) (l++[o]):=by
 have e:iD g l=iD (upI g o v) l:=b4 λk B=>by
  have:upI g o v k=g k:=if_neg λ(q:k=o)=>h (q▸B)
  show (k,AV.int (g k))=(k,AV.int (upI g o v k));rw[this]
 rw[e];exact Iq h (congrArg AV.int (if_pos rfl).symm)
structure Goes(P Ks:List Sp)(mo:Option (Sp->Sp))(a:Sp)(R:Sp->Int->Prop):Prop where
 nd:Ks.Nodup
 mem:∀k,k∈Ks↔k∈P
 at_:R a 0
 on:∀(x y:Int)(w o l r:Sp)(v:Int),Hd x y w o l r->l∈P\/r∈P->R (x,y) v->R o (v+spo Ks mo l r)
inductive QJ(K:KR):List AV->LS->Prop
 |mk (P C:List Sp)(a:Sp)(Ks:List Sp)(mo:Option (Sp->Sp))(R:Sp->Int->Prop)(c0:Flr P C a/\Goes P Ks mo a R)(c1:∀(g:Sp->Int)(fs:List Sp),fs.Nodup->(∀k,k∈fs↔k∈C)->(∀k∈fs,R k (g k))->K ⟨[.dict (iD g fs)],.new 0⟩ []):QJ K [.dict (fD (pvo mo) Ks)] []
noncomputable def fNum5:FS:=specF λavs V K Z=>QJ K avs V
noncomputable abbrev tNu5:Tab:=⟨a6,[],[(104,Lv)],[],[(89,kyF)]⟩
inductive NuJ5(P C:List Sp)(a:Sp)(R:Sp->Int->Prop)(D:List (Ah×AV))(a1 a2:bg):Nat->M->LS->Prop
 |mk (fs ws:List Sp)(g:Sp->Int)(x4 x5 x6 x7:Option AV)(F:List (Ah×AV))(W:List AV)(hd:Dfs (Eg P) (·∈C) a fs ws)(hM:Gx C.length fs ws<=2 * (C.length+1)+1)(hg:∀k∈fs,R k (g k))(eF:F=iD g fs)(eW:W=ws.map sp):NuJ5 P C a R D a1 a2 (Gx C.length fs ws) (nuM D a a1 a2 x4 x5 x6 x7) (nuS a1 a2 F W)
inductive NuI5(P C:List Sp)(a:Sp)(R:Sp->Int->Prop)(D:List (Ah×AV))(a1 a2:bg)(e:Sp)(n:Nat)(d r:List Sp):M->LS->Prop
 |mk (fs ws:List Sp)(g:Sp->Int)(x5 x6 x7:Option AV)(F:List (Ah×AV))(W:List AV)(hd:DfsAt (Eg P) (·∈C) a fs ws e (r.map λw=>(e.1+w.1,e.2+w.2)))(hM:Gx C.length fs ws<n)(hr:∀w∈r,w∈ways)(hg:∀k∈fs,R k (g k))(eF:F=iD g fs)(eW:W=ws.map sp):NuI5 P C a R D a1 a2 e n d r (nuM D a a1 a2 (a0 (sp e)) x5 x6 x7) (nuS a1 a2 F W)
theorem nu5_turn{KK:KS}(F:Flr P C a)(L:Goes P Ks mo a R)(hn:n<=2 * (C.length+1)+1)
  (j:NuI5 P C a R (fD (pvo mo) Ks) a1 a2 e n d (w::r) m V) (CC:M->LS->Prop) (hC:∀Ar Ab,NuI5 P C a R (fD (pvo mo) Ks) a1 a2 e n (d++[w]) r Ar Ab->CC Ar Ab) :
  patW a6 (.v 5) (sp w) m (λAo=>wpSs tNu5 [.assign (.v 6) (.tup [.bin .Add (.sub (.v 4) (.int 0)) (.sub (.v 5) (.int 0)),.bin .Add (.sub (.v 4) (.int 1)) (.sub (.v 5) (.int 1))]),.assign (.v 7) (.call (.g 104) [.v 0,.v 4,.v 5]),.ite (.and [.cmp .IsNot (.v 7) .none,.cmp .NotIn (.v 6) (.v 2)]) [.setitem (.v 2) (.v 6) (.bin .Add (.sub (.v 2) (.v 4)) (.v 7)),.expr (.meth (.v 3) 0 [.v 6])] []] X Ao V (Fu aa V CC KK)):=by
 induction j using NuI5.casesOn with
 |mk fs ws g x5 x6 x7 D W u hM hr hg U eW =>
  refine X2p (ways_hd (x:=e.1) (y:=e.2) (hr w (.head _))) λl Y B=>?_;have eC:=u.rc e u.he;have T:∀w∈r,w∈ways:=λc z=>hr c (.tail _ z);have co:=F.co.few;have lf:=c_len u.nd u.rc;have lw:=Dfs.len (am (cZ hM) hn);refine⟨Ks,mo,e.1,e.2,w,_,l,Y,⟨B,F.cAbs eC⟩,λq=>?_,λq=>?_⟩
  .have q':l∈P\/Y∈P:=q.imp (L.mem _).mp (L.mem _).mp
   by_cases c:(e.1+w.1,e.2+w.2)∈fs
   .exact⟨a6,⟨rfl,by rw[U];exact Jk c⟩,hC _ _ (.mk fs ws g _ _ _ D W (u.skip λZ=>c) hM T hg U eW)⟩
   .have eg:Eg P e (e.1+w.1,e.2+w.2):=⟨w,l,Y,B,q'⟩
    have pu:=u.push (eg.in F.co) c;refine⟨a7,⟨rfl,by rw[U];exact DT c⟩,rfl,.int (g e),by rw[U];exact Ep u.he,rfl,Aq (by rw[U];unfold iD;rw[Bw];exact lin [C.length,fs.length] [] (.b V1 AD) [.c V0 K64,.b V1 (.A V0 K1)] rfl co lf),rfl,rfl,Aq (by rw[eW,aj];exact lin [C.length,ws.length] [] (.b V1 AD) [.C 2 V0 K64,.b V1 (.A (.M 2 (.A V0 K1)) K1)] rfl co lw),hC _ _ (.mk _ _ (upI g (e.1+w.1,e.2+w.2) (g e+spo Ks mo l Y)) _ _ _ _ _ pu (cW (Gw (c_len pu.nd pu.rc)) hM) T (λk hk=>?_) (by rw[U];exact iD_put c) (by rw[eW,a9];rfl))⟩
    unfold upI
    by_cases z:k=(e.1+w.1,e.2+w.2)
    .rw[if_pos z,z];exact L.on _ _ _ _ _ _ _ B q' (hg e u.he)
    .rw[if_neg z];exact hg k ((aK.mp hk).elim id λy=>absurd (ay.mp y) z)
  .refine hC _ _ (.mk fs ws g _ _ _ D W (u.skip λz=>(X3pp z λw' l' r'' O z=>(An (B.one O) λZ0 Z1=>?_))) hM T hg U eW)
   clear O;subst Z0;subst Z1;exact absurd (z.imp (L.mem _).mpr (L.mem _).mpr) q
theorem nu5_for{K:KS}(h:Jm a6 (.v 5) (wpSs tNu5 body X) aa (kSeq (wpSs tNu5 [] X) K) (ways.map sp) m V):wpSs tNu5 [.for_ (.v 5) (.list [.tup [.int 1,.int 0],.tup [.int 0,.int 1],.tup [.neg (.int 1),.int 0],.tup [.int 0,.neg (.int 1)]]) body] X m V K:=h
theorem nu5_body{KK:KS}(F:Flr P C a)(L:Goes P Ks mo a R)(hK:∀g fs y U m',fs.Nodup->(∀k,k∈fs↔k∈C)->(∀k∈fs,R k (g k))->KK (.ret (.loc y 4)) m' (nuS y U (iD g fs) [])) :
  wpSs tNu5 (c_lnumbers.body.drop 1) X [a0 (.dict (fD (pvo mo) Ks)),a0 (sp a),aa,aa,aa,aa,aa,aa] [.no,.no,.no,.no,.no,.no] KK:=by
 intro y U;have co:=F.co.few;refine⟨NuJ5 P C a R (fD (pvo mo) Ks) y U,⟨_,.mk [a] [a] (λZ=>0) _ _ _ _ _ _ (Dfs.start F.aC) (by unfold Gx;rw[cD];exact lin [C.length+1 - 1,C.length] [] (.b (.A (.M 2 V0) K1) (.A (.M 2 (.A V1 K1)) K1)) [.B 2 V0 (.A V1 K1)] rfl (f7 (C.length+1) (1))) (λk hk=>by rw[ay.mp hk];exact L.at_) rfl rfl⟩,λn m' V j=>?_⟩
 induction j using NuJ5.casesOn with
 |mk fs ws g x4 x5 x6 x7 D W Y hM hg eF T =>
  have O:W.length<=big:=by rw[T,aj];exact Ft (am (Dfs.len hM) (lin [C.length] [] (.b (.A (.M 2 (.A V0 K1)) K1) IH) [.C 2 V0 K64] rfl co))
  refine⟨rfl,ws.isEmpty,by rw[T];exact list_nil ws,?_⟩
  rcases List.eq_nil_or_concat ws with rfl|⟨w,e,rfl⟩
  .subst eF;clear O;subst T
   exact hK g fs y U _ Y.nd (Y.corners F.hg F.co F.ha) hg
  .rw[eA]at Y hM ⊢
   rw[eA,a9]at T;have l1:(w++[e]).length=w.length+1:=ar;refine ifT (by cases w<;>rfl) ⟨rfl,rfl,O,sp e,by rw[T];exact List.getLast?_concat,asgW (nu5_for (m:=nuM (fD (pvo mo) Ks) a y U (a0 (sp e)) x5 x6 x7) (V:=nuS y U D W.dropLast) (AS (r:=ways) (g:=sp) rfl (NuI5 P C a R (fD (pvo mo) Ks) y U e (Gx C.length fs (w++[e]))) (λd m τ j=>?_) (λd c r m τ j CC hC=>nu5_turn F L hM j CC hC) (d:=[]) (.mk fs w g _ _ _ _ _ (Y.pop λc z=>?_) (by unfold Gx;rw[l1];exact lin [C.length+1 - fs.length,w.length] [] (.c (.A (.M 2 V0) V1) (.A (.M 2 V0) (.A V1 K1))) [] rfl) (λZ z=>z) hg eF (by rw[T];exact List.dropLast_concat))))⟩
   .induction j using NuI5.casesOn with|mk fs' ws' g' x5' x6' x7' F' W' hd' u _ hg' eF' eW'=>exact⟨_,u,.mk fs' ws' g' _ _ _ _ _ _ hd'.done (am (cZ u) hM) hg' eF' eW'⟩
   .exact X3pp z λw l r Y Z=>aJ.mpr ⟨w,Y.way,Y.o.symm⟩
theorem num5_ok:Mh tNu5 c_lnumbers .new 7 6 fNum5:=by
 refine .specF λy V K X h=>QJ.casesOn h λP C a Ks z R hz U=>An hz λF L=>?_;have Y:Ks.length<=36:=am (sub_length L.nd λk B=>(L.mem k).mp B) F.few;refine⟨rfl,Aq (by rw[Bw];exact lin [Ks.length] [] (.b V0 AD) [.b V0 K36] rfl Y),?_⟩
 rw[Ea];exact sortW.spots L.nd F.up L.mem (cW F.few (by decide)) ⟨sp a,by refine X1p F.ne λP' e=>?_;rw[e];rfl,nu5_body F L λg fs u O m' nd T d=>⟨rfl,U g fs nd T d⟩⟩
theorem Lyd.goes{P Ks:List Sp}(L:Lyd P Ks m h)(a:Sp):Goes P Ks (a0 m) a λk v=>v=h k - h a:=by
 refine⟨L.nd,L.mem,(iM _).symm,λx y w o l r v u q e=>?_⟩;have st:stp Ks m l r=stp P m l r:=by
  unfold stp
  by_cases z:l∈Ks/\m l=r
  .rw[if_pos z,if_pos ⟨(L.mem _).mp z.1,z.2⟩]
  .rw[if_neg z,if_neg λy=>z ⟨(L.mem _).mpr y.1,y.2⟩]
 have hh:=L.ht.way L.mt u q;show v+stp Ks m l r=_;rw[st,<- hh,e];exact af (lin [] [h (x,y),h a,h o] (.f (.A (.S V0 V1) (.S V2 V0)) (.S V2 V1)) [] rfl) (lin [] [h o,h a,h (x,y)] (.f (.S V0 V1) (.A (.S V2 V1) (.S V0 V2))) [] rfl)
theorem Lyd.goes0(L:Lyd P Ks m h)(a:Sp):Goes P Ks aa a λZ Z=>True:=⟨L.nd,L.mem,trivial,λZ Z Z Z Z Z Z Z Z Z=>trivial⟩
end
section
structure DOk(D:List (Ah×AV)):Prop where
 nd:(D.map (·.1)).Nodup
 few:D.length<=100
 pl:∀p∈D,plV p.2=a6
inductive NoD:AV->Prop
 |none:NoD .none
 |str (x:Str):NoD (.str x)
 |int (z:Int):NoD (.int z)
 |list (l:List AV):NoD (.list l)
theorem NoD.ix{v:AV}(h:NoD v):AO [v]=[]/\∀n,Bk [v] n=[v]:=by
 induction h using NoD.casesOn<;>exact⟨rfl,λZ=>rfl⟩
theorem NoD.own2{f:List AV->LS->KR->XL->Prop}{mu:Option Nat}{fs:List (Str×AV)}{v:AV}{V:LS}{K:KV}{X:XL}(o:NoD v)(h:f [.inst fs,v] [] (λr V'=>Fz mu r V K) (λc V'=>X c V)):G6 (specF f) mu [.inst fs,v] V K X :=
 ownW_no (show AO [v]=[] from o.ix.1) (congrArg (AV.inst fs::·) (o.ix.2 0)) h
structure Nums(C:List Sp)(D:List (Ah×AV))(h:Sp->Int):Prop where
 mem:∀k,k∈D.map (·.1)↔k∈C
 at_:∀k∈C,A2 D k=a0 (.int (h k))
def HOK(P C:List Sp)(a:Sp)(D:List (Ah×AV)):Prop:=∃h,Nums C D h/\h a=0/\Goo P h
theorem DW{b:Bool}(h:(!b)=a7):b=a6:=by
 cases b with|true=>rfl|false=>exact nT h
theorem FJ(l:List (Ah×AV))(k:Ah)(x:AV):(Bs l k x).length<=l.length+1:=by
 unfold Bs
 by_cases h:(A2 l k).isSome=a6
 .rw[if_pos h,aj];exact lin [l.length] [] (.b V0 (.A V0 K1)) [] rfl
 .rw[if_neg h,ar];exact aB _
theorem Hv{l:List (Ah×AV)}{k:Ah}{x:AV}(h:A2 l k=a0 x):(k,x)∈l:=by
 unfold A2 at h;refine X1pp (aX.mp h) λp Y z=>?_
 have:=List.find?_some Y
 rw[<- z,<- of_decide_eq_true this];exact List.mem_of_find?_eq_some Y
theorem inj_fst{l:List (Ah×AV)}{k:Ah}{x y:AV}(d:(l.map (·.1)).Nodup)(h:(k,x)∈l)(h':(k,y)∈l):x=y:=by
 induction l with
 |nil=>exact nM h
 |cons p l Y =>
  rw[b5,bG]at d
  rcases az.mp h with z|z<;>rcases az.mp h' with B|B
  .exact(congrArg eu z).trans (congrArg eu B).symm
  .exact absurd (aJ.mpr ⟨_,B,(congrArg dK z:k=p.1)⟩) d.1
  .exact absurd (aJ.mpr ⟨_,z,(congrArg dK B:k=p.1)⟩) d.1
  .exact Y d.2 z B
theorem Hu{l:List (Ah×AV)}{k:Ah}{x:AV}(z:(l.map (·.1)).Nodup)(h:(k,x)∈l):A2 l k=a0 x:=by
 cases e:A2 l k with|none=>exact absurd rfl (Ed e _ h)|some y=>rw[inj_fst z (Hv e) h]
theorem dget_isS{l:List (Ah×AV)}{k:Ah}:(A2 l k).isSome=a6↔k∈l.map (·.1):=by
 cases e:A2 l k with|none=>exact⟨λh=>(nF h),λh=>by refine X1pp (aJ.mp h) λp d q=>?_;exact absurd q (Ed e p d)⟩|some x=>exact⟨λZ=>aJ.mpr ⟨_,Hv e,rfl⟩,λZ=>rfl⟩
noncomputable def wB:AV->Bool
 |.int _=>a6
 |_=>a7
noncomputable def intOf:Option AV->Int
 |some (.int z)=>z
 |_=>0
theorem wB_int{v:AV}(h:wB v=a6):∃z,v=.int z:=by
 cases v with|int z=>exact⟨z,rfl⟩|_=>exact(aQ h).elim
theorem whole_at{v:AV}(h:plV v=a6):fWhole.pure [v]=a0 (.bool (wB v)):=by
 cases v with
 |int _|str _|bool _|none=>rfl
 |_=>exact(aQ h).elim
theorem JF{v:AV}{V:LS}{K:KV}{X:XL}(h:plV v=a6)(U:K (.bool (wB v)) V):G6 fWhole aa [v] V K X:=by
 unfold G6;rw[whole_at h];exact U
theorem all_id{α:Type}{f:α->Bool}{l:List α}:(l.map f).all id=a6↔∀x∈l,f x=a6:=by
 rw[List.all_map,cB];rfl
theorem HU{C:List Sp}{D:List (Ah×AV)}(d:DOk D)(Y:C.Nodup)(l:D.length=C.length)(i:∀c∈C,(A2 D c).isSome=a6)(k:Sp):k∈D.map (·.1)↔k∈C:=by
 refine⟨λB=>dB λn=>?_,λB=>dget_isS.mp (i k B)⟩
 have:=sub_length (l:=k::C) (k:=D.map (·.1)) (bG.mpr ⟨n,Y⟩) λx u=>(az.mp u).elim (λe=>e▸B) λu=>dget_isS.mp (i x u)
 rw[aj,l,aL]at this;exact lin [C.length] [] .no [.b (.A V0 K1) V0] rfl this
theorem nums_iff{C:List Sp}{D:List (Ah×AV)}(d:DOk D)(O:C.Nodup)(l:D.length=C.length)(i:(C.map λc=>(A2 D c).isSome).all id=a6):(D.map λp=>wB p.2).all id=a6↔∃h,Nums C D h:=by
 have mem:=HU d O l (all_id.mp i);rw[all_id]
 constructor
 .refine λw=>⟨λk=>intOf (A2 D k),mem,λk B=>(X1pp (aJ.mp ((mem k).mpr B)) λp Y e=>?_)⟩
  have g:A2 D k=a0 p.2:=Hu d.nd (by rwa [<- e])
  refine X1p (wB_int (w p Y)) λz hz=>?_;rw[g,hz];rfl
 .refine λu p Y=>X1p u λh N=>?_
  have g:=N.at_ p.1 ((N.mem _).mp (cQ Y));rw[Hu d.nd (show (p.1,p.2)∈D from Y)]at g
  rw[ae g];rfl
theorem Nums.len{C:List Sp}{D:List (Ah×AV)}{h:Sp->Int}(N:Nums C D h)(d:DOk D)(Y:C.Nodup):D.length=C.length:=by
 have:=same_length d.nd Y N.mem
 rwa [aj]at this
theorem Nums.same{C:List Sp}{D:List (Ah×AV)}{h h':Sp->Int}(N:Nums C D h)(d:Nums C D h'){k:Sp}(B:k∈C):h' k=h k:=by
 have:=(N.at_ k B).symm.trans (d.at_ k B)
 exact(AV.int.inj (ae this)).symm
theorem HOK.of{P C:List Sp}{a:Sp}{D:List (Ah×AV)}{h:Sp->Int}(H:HOK P C a D)(B:Cor P C)(aC:a∈C)(N:Nums C D h):h a=0/\Goo P h:=by
 refine X1ppp H λh' d e G=>⟨(d.same N aC).trans e,λz q=>?_⟩;obtain⟨U,y⟩:=C9 B q
 have:=G z q
 unfold Fit stZ at this ⊢
 rwa [N.same d U,N.same d y]at this
inductive Q0(K:KR):List AV->LS->Prop
 |dict (t:AV)(P C:List Sp)(D:List (Ah×AV))(c0:P.length<=36/\Cor P C/\DOk D)(c1:∀b:Bool,(b=a6↔∃h,Nums C D h)->K ⟨[],.val (.bool b)⟩ []):Q0 K [AJ t P,.dict D] []
 |no (t:AV)(P:List Sp)(v:AV)(c0:NoD v)(c1:K ⟨[],.val (.bool a7)⟩ []):Q0 K [AJ t P,v] []
noncomputable def fAre:FS:=specF λavs V K Z=>Q0 K avs V
theorem are_ok:Mh ⟨a6,[],[(31,fSpot),(30,fWhole)],[(18,FE)],[]⟩ C1 .val 1 0 fAre:=by
 refine .specF λavs V K X h=>Q0.casesOn h (λt P C D hz T=>?_) (λt P v o T=>?_)
 .refine Bo hz λhP B d=>?_
  have O:=BC B.up;have lC:=B.few;have ld:=d.few;have lc:(C.map sp).length<=big:=Aq (by rw[aj];exact lin [C.length] [] (.b V0 AD) [.c V0 K64] rfl lC)
  have lD:D.length<=big:=Aq (lin [D.length] [] (.b V0 AD) [.b V0 Et] rfl ld);have Y:P.length<=100:=by exact lin [P.length] [] (.b V0 Et) [.b V0 K36] rfl hP
  refine⟨rfl,lD,⟨rfl,rfl⟩,⟨rfl,rfl⟩,t,P,C,rfl,rfl,Y,B,lc,ifB (λe=>T a7 ⟨λz=>(nF z),λ⟨h,N⟩=>?_⟩) λe=>?_⟩
  .rw[aj,N.len d O,beq_self_eq_true]at e;exact nF e
  have e:D.length=C.length:=by
   have:=eq_of_beq (DW e)
   rw[aj]at this;exact aq (lin [D.length,C.length] [] (.b V0 V1) [.h (.c V0) (.c V1)] rfl this) (lin [D.length,C.length] [] (.b V1 V0) [.H (-1) (.c V0) (.c V1)] rfl this)
  refine⟨by rwa [aj],AZ (r:=D) (g:=λp=>sp p.1) (f:=λZ=>.bool a6) rfl (λp u CC U=>?_) ?_⟩
  .exact⟨sp p.1,rfl,rfl,.inl ⟨p.1,rfl,U⟩⟩
  refine⟨D.map λZ=>a6,by rw[aV];rfl,?_⟩
  rw[all_id.mpr λZ Z=>rfl];refine⟨⟨rfl,rfl⟩,⟨rfl,rfl⟩,t,P,C,rfl,rfl,Y,B,lc,AZ (r:=C) (g:=sp) (f:=λc=>.bool (A2 D c).isSome) rfl (λc Y CC U=>⟨_,rfl,U⟩) ⟨C.map λc=>(A2 D c).isSome,by rw[aV];rfl,ifB (λy=>T a7 ⟨λz=>(nF z),λ⟨h,N⟩=>?_⟩) λy=>?_⟩⟩
  .rw[all_id.mpr λc Y=>dget_isS.mpr ((N.mem c).mpr Y)]at y;exact nF y
  exact⟨by rwa [aj],AZ (r:=D) (g:=λp=>sp p.1) (f:=λp=>.bool (wB p.2)) rfl (λp u CC U=>⟨p.2,Hu d.nd u,JF (d.pl p u) U⟩) ⟨D.map λp=>wB p.2,by rw[aV];rfl,T _ (nums_iff d O e (DW y))⟩⟩
 .induction o using NoD.casesOn<;>exact⟨rfl,T⟩
inductive QA(avs:List AV)(V:LS)(K:KR):Prop
 |mk (t:AV)(P:List Sp)(C:List Sp)(a:_)(c0:avs=[AJ t P])(c1:V=[])(c2:Flr P C a)(c3:K ⟨[],.val (sp a)⟩ []):QA avs V K
noncomputable def LA:FS:=specF λavs V K Z=>QA avs V K
theorem Jo:Mh ⟨a6,[],[],[(16,LB)],[]⟩ Co .val 0 0 LA:=by
 refine .specF λy V K X h=>?_;obtain⟨t,P,C,a,rfl,rfl,F,U⟩:=h
 have:=F.few
 exact⟨rfl,⟨rfl,rfl⟩,⟨rfl,rfl⟩,t,P,rfl,lin [P.length] [] (.b V0 AD) [.b V0 K36] rfl this,rfl,sp a,by refine X1p F.ne λd e=>?_;rw[e];rfl,U⟩
inductive QF(K:KR):List AV->LS->Prop
 |dict (t:AV)(P C:List Sp)(a:Sp)(D:List (Ah×AV))(c0:Flr P C a/\DOk D)(c1:∀b:Bool,(b=a6↔HOK P C a D)->K ⟨[],.val (.bool b)⟩ []):QF K [AJ t P,.dict D] []
 |no (t:AV)(P:List Sp)(v:AV)(c0:NoD v)(c1:K ⟨[],.val (.bool a7)⟩ []):QF K [AJ t P,v] []
noncomputable def fIsH:FS:=specF λavs V K Z=>QF K avs V
noncomputable def ihM(t:AV)(P:List Sp)(D:List (Ah×AV))(x2 x3 x4 x5 x6 x7:Option AV):M:=[a0 (AJ t P),a0 (.dict D),x2,x3,x4,x5,x6,x7]
inductive IhJ(t:AV)(P:List Sp)(D:List (Ah×AV))(h:Sp->Int)(d r:List (Sp×Bool)):M->LS->Prop
 |mk (x2 x3 x4 x5 x6 x7:Option AV)(hd:∀z∈d,Fit P h z)(hr:∀z∈r,Ew P z):IhJ t P D h d r (ihM t P D x2 x3 x4 x5 x6 x7) []
noncomputable abbrev tIh:Tab:=⟨a6,[],[(49,fAre),(46,LA),(45,Lx)],[(15,fHas)],[]⟩
theorem ih_turn{t:AV}{P C:List Sp}{a:Sp}{D:List (Ah×AV)}{h:Sp->Int}{d r:List (Sp×Bool)}{z:Sp×Bool}{m:M}{V:LS}{X:XL}{KK:KS}(hC:Cor P C)(N:Nums C D h)(j:IhJ t P D h d (z::r) m V)(Y:M->LS->Prop)(U:∀Ar Ab,IhJ t P D h (d++[z]) r Ar Ab->Y Ar Ab)(hK:¬Goo P h->∀m,KK (.ret (.bool a7)) m []) :
  patW a6 (.tup [.v 2,.v 3,.v 4,.v 5,.v 6]) (sdA z) m (λAo=>wpSs tIh [.assign (.v 7) (.bin .Sub (.sub (.v 1) (.v 3)) (.sub (.v 1) (.v 2))),.ite (.and [.cmp .NotEq (.v 7) (.v 6),.or [.cmp .NotEq (.v 7) (.bin .Mult (.neg (.int 3)) (.v 6)),.not (.meth (.v 0) 15 [.v 4]),.not (.meth (.v 0) 15 [.v 5])]]) [.ret (.bool a7)] []] X Ao V (Fu aa V Y KK)):=by
 induction j using IhJ.casesOn with
 |mk x2 x3 x4 x5 x6 x7 hd hr =>
  have q:=hr z (.head _);obtain⟨c1,c2⟩:=C9 hC q;have bad:¬Fit P h z->∀m,KK (.ret (.bool a7)) m []:=λn=>hK λG=>n (G z q);have go:Fit P h z->Y (ihM t P D (a0 (sp z.1)) (a0 (sp (goS z))) (a0 (sp (lfS z))) (a0 (sp (rtS z))) (a0 (.int (sg (lfS z)))) (a0 (.int (stZ h z)))) []:=λf=>U _ _ (.mk _ _ _ _ _ _ (λy B=>(aK.mp B).elim (hd y) λB=>by rwa [ay.mp B]) λy B=>hr y (.tail _ B))
  refine⟨_,N.at_ _ c2,_,N.at_ _ c1,ifB (λu=>?_) λu=>go (.inl (eq_of_beq (DW u)))⟩;have u:stZ h z≠sg (lfS z):=λe=>by
   have:(!(stZ h z == sg (lfS z)))=a6:=u
   rw[e,beq_self_eq_true]at this;exact nF this
  refine⟨eU (by decide +kernel),ifB (λT=>bad (λf=>f.elim u λf=>?_) _) λT=>?_⟩
  .have:(!(stZ h z == -3 * sg (lfS z)))=a6:=T
   rw[f.1,beq_self_eq_true]at this;exact nF this
  have T:stZ h z=-3 * sg (lfS z):=eq_of_beq (DW T);refine⟨⟨rfl,rfl⟩,⟨rfl,rfl⟩,t,P,lfS z,decide (lfS z∈P),rfl,rfl,rfl,?_⟩
  by_cases i:lfS z∈P
  .rw[decide_eq_true i]
   refine⟨⟨rfl,rfl⟩,⟨rfl,rfl⟩,t,P,rtS z,decide (rtS z∈P),rfl,rfl,rfl,?_⟩
   by_cases O:rtS z∈P
   .rw[decide_eq_true O]
    exact go (.inr ⟨T,i,O⟩)
   .rw[decide_eq_false O]
    exact bad (λf=>f.elim u λf=>O f.2.2) _
  .rw[decide_eq_false i]
   exact bad (λf=>f.elim u λf=>i f.2.1) _
theorem isH_ok:Mh tIh Dw .val 6 0 fIsH:=by
 refine .specF λu V K X h=>QF.casesOn h (λt P C a D hz U=>?_) (λt P v o U=>?_)
 .refine An hz λF d=>⟨rfl,.dict t P C D ⟨F.few,F.co,d⟩ λb O=>?_⟩
  cases b with
  |false=>exact U a7 ⟨λz=>(nF z),λ⟨h,N,_⟩=>O.mpr ⟨h,N⟩⟩
  |true =>
   refine X1p (O.mp rfl) λh N=>⟨t,P,C,a,rfl,rfl,F,_,N.at_ a F.aC,ifB (λe=>U a7 ⟨λz=>(nF z),λH=>?_⟩) λe=>?_⟩
   .rw[(H.of F.co F.aC N).1]at e;exact nF e
   have e:h a=0:=eq_of_beq (DW e);refine⟨t,P,C,rfl,rfl,⟨F.few,F.co⟩,λS B=>(AS (r:=S) (g:=sdA) rfl (λd r m V=>d++r=S/\IhJ t P D h d r m V) (λd m τ j=>?_) (λd z r m τ j Y T=>?_) (d:=[]) ⟨rfl,.mk _ _ _ _ _ _ (λz hz=>by exact nM hz) λz hz=>((B.mem z).mp hz).2⟩)⟩
   .obtain⟨y,j⟩:=j
    rw[aF]at y;subst y
    induction j using IhJ.casesOn with|mk x2 x3 x4 x5 x6 x7 y hr=>exact U a6 ⟨λZ=>⟨h,N,e,λz q=>y z ((B.mem z).mpr ⟨(C9 F.co q).1,q⟩)⟩,λZ=>rfl⟩
   .obtain⟨y,j⟩:=j
    exact ih_turn (a:=a) F.co N j Y (λAr Ab h=>T _ _ ⟨by rwa [aH],h⟩) λn m=>U a7 ⟨λz=>(nF z),λH=>absurd (H.of F.co F.aC N).2 n⟩
 .refine⟨rfl,?_⟩
  show G6 fAre aa [AJ t P,v] (aP 0 .no) (λa Aa=>_) (λe τ=>X e (f9 0 τ));exact o.own2 (.no t P v o U)
inductive QI(K:KR)(X:XL):List AV->LS->Prop
 |yes (t:AV)(P C:List Sp)(a:Sp)(D:List (Ah×AV))(h:Sp->Int)(m:Sp->Sp)(c0:(Flr P C a/\DOk D)/\(Nums C D h/\h a=0)/\Mt P m/\HT P m h)(c1:K ⟨[.list ((Dd P m).map pcA)],.new 0⟩ []):QI K X [AJ t P,.dict D] []
 |bad (t:AV)(P C:List Sp)(a:Sp)(D:List (Ah×AV))(c0:(Flr P C a/\DOk D)/\¬HOK P C a D)(c1:X 25 []):QI K X [AJ t P,.dict D] []
 |no (t:AV)(P:List Sp)(v:AV)(c0:NoD v)(c1:X 25 []):QI K X [AJ t P,v] []
noncomputable def fLf:FS:=specF λavs V K X=>QI K X avs V
noncomputable def lfM(t:AV)(P:List Sp)(D:List (Ah×AV))(f:bg)(x3 x4 x5 x6 x7:Option AV):M:=[a0 (AJ t P),a0 (.dict D),a0 (.loc f 4),x3,x4,x5,x6,x7]
noncomputable def lfT(f:bg)(E:List (Ah×AV)):LS:=[.no,.no,.no,.no,.at f (.dict E),.no]
structure LfK(P:List Sp)(m:Sp->Sp)(d:List (Sp×Bool))(Ks:List Sp):Prop where
 nd:Ks.Nodup
 inP:∀k∈Ks,k∈P
 all:∀z∈d,lfS z∈P/\m (lfS z)=rtS z->lfS z∈Ks/\rtS z∈Ks
def Two(z:Sp×Bool)(p q:Sp):Prop:=(p=lfS z/\q=rtS z)\/(p=rtS z/\q=lfS z)
theorem LfK.put{P:List Sp}{m:Sp->Sp}{d:List (Sp×Bool)}{Ks:List Sp}(L:LfK P m d Ks)(M:Mt P m){z:Sp×Bool}{p r:Sp}(t:Two z p r)(q:lfS z∈P/\m (lfS z)=rtS z):LfK P m (d++[z]) (Ey (Ey Ks p) r):=by
 have i:rtS z∈P:=by rw[<- q.2];exact(nbP_mem.mp (M _ q.1).1).2.2
 have ip:p∈P:=t.elim (λt=>by rw[t.1];exact q.1) λt=>by rwa [t.1]
 have O:r∈P:=t.elim (λt=>by rwa [t.2]) λt=>by rw[t.2];exact q.1
 have mp:p∈Ey (Ey Ks p) r:=insS_mem.mpr (.inl (insS_mem.mpr (.inr rfl)));have Y:r∈Ey (Ey Ks p) r:=insS_mem.mpr (.inr rfl);refine⟨Fw (Fw L.nd),λk B=>?_,λy u w=>?_⟩
 .rcases insS_mem.mp B with B|B
  .rcases insS_mem.mp B with B|B
   .exact L.inP k B
   .rwa [B]
  .rwa [B]
 .rcases aK.mp u with u|u
  .exact An (L.all y u w) λU T=>⟨insS_mem.mpr (.inl (insS_mem.mpr (.inl U))),insS_mem.mpr (.inl (insS_mem.mpr (.inl T)))⟩
  .rw[ay.mp u]
   rcases t with t|t
   .rw[<- t.1,<- t.2];exact⟨mp,Y⟩
   .rw[<- t.1,<- t.2];exact⟨Y,mp⟩
theorem LfK.skip{P:List Sp}{m:Sp->Sp}{d:List (Sp×Bool)}{Ks:List Sp}(L:LfK P m d Ks){z:Sp×Bool}(q:¬(lfS z∈P/\m (lfS z)=rtS z)):LfK P m (d++[z]) Ks :=
 ⟨L.nd,L.inP,λy u w=>(aK.mp u).elim (λu=>L.all y u w) λu=>by rw[ay.mp u]at w;exact absurd w q⟩
theorem LfK.len{P:List Sp}{m:Sp->Sp}{d:List (Sp×Bool)}{Ks:List Sp}(L:LfK P m d Ks)(u:P.length<=36):Ks.length<=36:=am (sub_length L.nd L.inP) u
theorem put2{m:Sp->Sp}{P Ks:List Sp}{z:Sp×Bool}{p r:Sp}(M:Mt P m)(t:Two z p r)(q:lfS z∈P/\m (lfS z)=rtS z):Bs (Bs (fD (spm m) Ks) p (sp r)) r (sp p)=fD (spm m) (Ey (Ey Ks p) r):=by
 have b:m (rtS z)=lfS z:=by rw[<- q.2];exact(M _ q.1).2
 have e:r=m p/\p=m r:=by
  rcases t with⟨rfl,rfl⟩|⟨rfl,rfl⟩
  .exact⟨q.2.symm,b.symm⟩
  .exact⟨b.symm,q.2.symm⟩
 rw[CR (f:=spm m) (congrArg sp e.1)];exact CR (f:=spm m) (congrArg sp e.2)
inductive LfJ(t:AV)(P:List Sp)(D:List (Ah×AV))(f:bg)(m:Sp->Sp)(d r:List (Sp×Bool)):M->LS->Prop
 |mk (x3 x4 x5 x6 x7:Option AV)(Ks:List Sp)(E:List (Ah×AV))(L:LfK P m d Ks)(hr:∀z∈r,Ew P z)(e:E=fD (spm m) Ks):LfJ t P D f m d r (lfM t P D f x3 x4 x5 x6 x7) (lfT f E)
noncomputable abbrev tLf:Tab:=⟨a6,[25],[(50,fIsH),(45,Lx),(40,fLay)],[],[]⟩
theorem lf_turn{t:AV}{P C:List Sp}{D:List (Ah×AV)}{h:Sp->Int}{f:bg}{m0:Sp->Sp}{d r:List (Sp×Bool)}{z:Sp×Bool}{m:M}{V:LS}{X:XL}{KK:KS}(hP:P.length<=36)(hC:Cor P C)(N:Nums C D h)(M:Mt P m0)(H:HT P m0 h)(j:LfJ t P D f m0 d (z::r) m V)(B:Internal.M->LS->Prop)(U:∀Ar Ab,LfJ t P D f m0 (d++[z]) r Ar Ab->B Ar Ab) :
  patW a6 (.tup [.v 3,.v 4,.v 5,.v 6,.v 7]) (sdA z) m (λAo=>wpSs tLf [.ite (.cmp .Eq (.call (.g 12) [.bin .Sub (.sub (.v 1) (.v 4)) (.sub (.v 1) (.v 3))]) (.int 3)) [.setitem (.v 2) (.v 5) (.v 6),.setitem (.v 2) (.v 6) (.v 5)] []] X Ao V (Fu aa V B KK)):=by
 induction j using LfJ.casesOn with
 |mk x3 x4 x5 x6 x7 Ks E L Y e =>
  have q:=Y z (.head _);have u:∀y∈r,Ew P y:=λy T=>Y y (.tail _ T);obtain⟨c1,c2⟩:=C9 hC q;have l1:=L.len hP;refine⟨_,N.at_ _ c2,_,N.at_ _ c1,ifB (λb=>?_) λb=>?_⟩
  .have w:=(H.three q).mp (eq_of_beq b)
   have O:E.length<=36:=by rwa [e,Bw]
   exact⟨rfl,Aq (lin [E.length] [] (.b V0 AD) [.b V0 K36] rfl O),rfl,Aq (am (FJ ..) (lin [E.length] [] (.b (.A V0 K1) AD) [.b V0 K36] rfl O)),U _ _ (.mk _ _ _ _ _ _ _ (L.put M (.inl ⟨rfl,rfl⟩) w) u (by rw[e];exact put2 M (.inl ⟨rfl,rfl⟩) w))⟩
  .exact U _ _ (.mk _ _ _ _ _ Ks E (L.skip λw=>by
    have b:(((stZ h z).natAbs:Int) == 3)=a7:=b;rw[(H.three q).mpr w]at b;exact nT b) u e)
theorem lf_ok:Mh tLf C0 .new 6 6 fLf:=by
 refine .specF λavs V K X h=>QI.casesOn h (λt P C a D h m hz u=>?_) (λt P C a D hz O=>?_) (λt P v o O=>?_)
 .obtain⟨⟨F,d⟩,⟨N,e0⟩,M,H⟩:=hz
  refine⟨rfl,.dict t P C a D ⟨F,d⟩ λb U=>?_⟩;obtain rfl:=U.mpr ⟨h,N,e0,H.goo M⟩;refine λf=>⟨t,P,C,rfl,rfl,⟨F.few,F.co⟩,λS B=>(AS (r:=S) (g:=sdA) rfl (λd r m' V=>d++r=S/\LfJ t P D f m d r m' V) (λd m' τ j=>?_) (λd z r m' τ j CC T=>?_) (d:=[]) ⟨rfl,.mk _ _ _ _ _ [] _ ⟨.nil,λZ h=>(nM h),λZ h=>(nM h)⟩ (λz hz=>((B.mem z).mp hz).2) rfl⟩)⟩
  .obtain⟨y,j⟩:=j
   rw[aF]at y;subst y
   induction j using LfJ.casesOn with
   |mk x3 x4 x5 x6 x7 Ks E L hr e =>
    subst e;refine⟨t,P,f,Ks,m,⟨F.few,λk Y=>(X1pp (M.side Y) λz w i=>?_)⟩,λc=>⟨rfl,u⟩⟩;have q:Ew P z:=.inl w.1;refine An (L.all z ((B.mem z).mpr ⟨(C9 F.co q).1,q⟩) w) λi1 i2=>?_
    rcases i with i|i
    .rwa [i]
    .rwa [i]
  .obtain⟨y,j⟩:=j
   exact lf_turn F.few F.co N M H j CC λAr Ab h=>T _ _ ⟨by rwa [aH],h⟩
 .refine⟨rfl,.dict t P C a D hz.1 λb U=>?_⟩
  cases b with|true=>exact absurd (U.mp rfl) hz.2|false=>exact O
 .refine⟨rfl,?_⟩
  show G6 fIsH aa [AJ t P,v] (aP 6 .no) (λa Aa=>_) (λe τ=>X e (f9 0 τ));exact o.own2 (.no t P v o O)
end
section
def Bx(k:Sp):Prop:=((0<=k.1/\k.1<7)/\0<=k.2/\k.2<7)\/k=(9,9)
theorem hash99:AX (9,9)∉hash49:=by decide +kernel
theorem Le:((all49++[(9,9)]).map AX).Nodup:=by
 rw[a9,H5,cM];exact⟨H4,.cons (λZ h=>by cases h) .nil,λx d y u e=>hash99 (by rwa [<- ay.mp u,<- e])⟩
theorem Bx.mem(h:Bx k):k∈all49++[(9,9)]:=h.elim (λh=>bA _ (Es h)) λh=>bF _ (by rw[h];exact .head _)
structure FD(n:Nat)(D:List (Ah×AV)):Prop where
 nd:(D.map (·.1)).Nodup
 bx:∀p∈D,Bx p.1/\plV p.2=a6
 len:n<=D.length
theorem FD.ok(h:FD n D):DOk D:=by
 refine⟨h.nd,?_,λp d=>(h.bx p d).2⟩
 have:=sub_length (k:=all49++[(9,9)]) h.nd λk B=>by refine X1pr k (aJ.mp B) λp d=>?_;exact(h.bx p d).1.mem
 rw[aj]at this;exact am this (by decide)
theorem FD.hash(h:FD n D):(D.map λp=>AX p.1).Nodup:=by
 have e:(D.map λp=>AX p.1)=(D.map (·.1)).map AX:=by rw[aV];rfl
 rw[e];refine b6.mpr (h.nd.imp_of_mem λ{a b} ha hb ne e=>ne (X1pp (aJ.mp ha) λp d u=>?_));clear ha ne;subst u;refine X1pp (aJ.mp hb) λq hq z=>?_;subst z;exact K9 Le (h.bx p d).1.mem (h.bx q hq).1.mem e
theorem dset_mem(h:p∈Bs l k x):p=(k,x)\/p∈l:=by
 unfold Bs at h
 by_cases q:(A2 l k).isSome=a6
 .rw[if_pos q]at h
  refine X1pp (aJ.mp h) λr y e=>?_
  by_cases z:r.1=k
  .rw[if_pos z]at e;exact .inl e.symm
  .rw[if_neg z]at e;rw[<- e];exact .inr y
 .rw[if_neg q]at h
  exact(aK.mp h).elim .inr λh=>.inl (ay.mp h)
theorem dset_ge(l:List (Ah×AV))(k:Ah)(x:AV):l.length<=(Bs l k x).length:=by
 unfold Bs
 by_cases q:(A2 l k).isSome=a6
 .rw[if_pos q,aj];exact aB _
 .rw[if_neg q,ar];exact dv _ _
theorem FD.set(h:FD n D)(B:Bx k)(u:plV x=a6):FD n (Bs D k x) :=
 ⟨Dg k x h.nd,λp d=>(dset_mem d).elim (λe=>by rw[e];exact⟨B,u⟩) (h.bx p),am h.len (dset_ge ..)⟩
theorem erase_le(D:List (Ah×AV))(i:Nat):D.length<=(D.eraseIdx i).length+1:=by
 rw[List.length_eraseIdx];split<;>omega
theorem FD.pop(h:FD (n+1) D)(i:Nat):FD n (D.eraseIdx i):=by
 refine⟨?_,λp d=>h.bx p (List.mem_of_mem_eraseIdx d),?_⟩
 .rw[<- CN];exact h.nd.sublist (List.eraseIdx_sublist ..)
 .have:=h.len
  have:=erase_le D i
  omega
theorem FD.iD(y:fs.Nodup)(z:∀k∈fs,(0<=k.1/\k.1<7)/\0<=k.2/\k.2<7)(l:2<=fs.length):FD 2 (iD g fs):=by
 refine⟨?_,λp d=>?_,by unfold Internal.iD;rwa [Bw]⟩
 .have:(Internal.iD g fs).map (·.1)=fs:=(Gq (f:=λk=>.int (g k)) (l:=fs) id).trans (fw _)
  rwa [this]
 .exact X1pr p (aJ.mp d) λk B=>⟨.inl (z k B),rfl⟩
theorem iD_set(h:o∈l):Bs (iD g l) o (.int v)=iD (upI g o v) l:=by
 refine(FI h).trans (b4 λk Z=>?_);unfold upI;show (k,if k=o then AV.int v else AV.int (g k))=(k,AV.int (if k=o then v else g k))
 by_cases q:k=o
 .rw[if_pos q,if_pos q]
 .rw[if_neg q,if_neg q]
inductive Thg:AV->Prop
 |dict (D:List (Ah×AV))(h:FD 1 D):Thg (.dict D)
 |no (v:AV)(o:NoD v)(n:Ml 5 v):Thg v
structure Ch(fs:List Sp)(n:Int):Prop where
 nd:fs.Nodup
 bx:∀k∈fs,(0<=k.1/\k.1<7)/\0<=k.2/\k.2<7
 two:2<=fs.length
 few:fs.length<=64
inductive Q7(K:KR):List AV->LS->Prop
 |mk (fs:List Sp)(g:Sp->Int)(n:Int)(c0:Ch fs n)(c1:∀v,Thg v->∀r:RT,r.sh.with (JC r.os)=v->K r []):Q7 K [.dict (iD g fs),.int n] []
noncomputable def fCh:FS:=specF λavs V K Z=>Q7 K avs V
noncomputable def chM(g:Sp->Int)(fs:List Sp)(n:Int)(f:bg)(x4 x5 x6 x7:Option AV):M:=[a0 (.dict (iD g fs)),a0 (.int n),a0 (.loc f 4),a0 (.list (fs.map sp)),x4,x5,x6,x7]
noncomputable def chS(f:bg)(D:List (Ah×AV)):LS:=[.no,.no,.no,.no,.at f (.dict D)]
noncomputable abbrev tCh:Tab:=⟨a6,[],[(73,ES)],[],[]⟩
inductive ChJ(g0:Sp->Int)(fs:List Sp)(n:Int)(f:bg)(d r:List Int):M->LS->Prop
 |mk (g:Sp->Int)(x4 x5 x6:Option AV)(D:List (Ah×AV))(e:D=iD g fs):ChJ g0 fs n f d r (chM g0 fs n f x4 x5 x6 aa) (chS f D)
theorem Ch.at(c:Ch fs n)(x:Int):((fs.map sp).length<=big/\((fs.map sp).length:Int)≠0)/\(0<=x.fmod (fs.map sp).length/\x.fmod (fs.map sp).length<1000000)/\∃k∈fs,(fs.map sp)[(x.fmod (fs.map sp).length).toNat]?=a0 (sp k)/\fs[(x.fmod (fs.map sp).length).toNat]?=a0 k:=by
 have d:=c.two;have u:=c.few;have e:(fs.map sp).length=fs.length:=aj ..;rw[e];have b:=A5 (a:=x) (b:=fs.length) (lin [fs.length] [] (.g K0 (.c V0)) [.b K2 V0] rfl d);have z:(x.fmod fs.length).toNat<fs.length:=by exact lin [fs.length,(x.fmod ↑fs.length).toNat] [x.fmod ↑fs.length] (.c V1 V0) [.g V0 (.c V0),.h (.c V1) V0] rfl b.2 (an (lin [] [x.fmod ↑fs.length] (.f K0 V0) [.f K0 V0] rfl b.1))
 refine⟨⟨Aq (lin [fs.length] [] (.b V0 AD) [.b V0 K64] rfl u),λO=>lin [fs.length] [] .no [.b K2 V0,.h (.c V0) K0] rfl d O⟩,⟨b.1,lin [fs.length] [x.fmod ↑fs.length] (.g V0 Aw) [.b V0 K64,.g V0 (.c V0)] rfl u b.2⟩,fs[(x.fmod fs.length).toNat],fZ _,?_,ax z⟩;rw[aM,ax z];rfl
theorem by5(e:Int):∀j:Nat,j<5->∃b,([.int 4,.int (-4),.int 4,.int (-4),.int e]:List AV)[j]?=a0 (.int b)
 |0,_=>⟨_,rfl⟩
 |1,_=>⟨_,rfl⟩
 |2,_=>⟨_,rfl⟩
 |3,_=>⟨_,rfl⟩
 |4,_=>⟨_,rfl⟩
 |j+5,h=>absurd h (lin [j] [] (.j (.A V0 K5) K5) [] rfl)
theorem odd3:∀j:Nat,j<3->∃b,([.bool a6,.str "1",.none]:List AV)[j]?=a0 b/\plV b=a6
 |0,_=>⟨_,rfl,rfl⟩
 |1,_=>⟨_,rfl,rfl⟩
 |2,_=>⟨_,rfl,rfl⟩
 |j+3,h=>absurd h (lin [j] [] (.j (.A V0 K3) K3) [] rfl)
theorem odd5(fs:List Sp):∀j:Nat,j<5->∃b,([.none,.list [],.str "a",.list (fs.map sp),.int 5]:List AV)[j]?=a0 b/\Thg b
 |0,_=>⟨_,rfl,.no _ .none (Ml.none.mono (by decide))⟩
 |1,_=>⟨_,rfl,.no _ (.list _) ((Ml.spots []).mono (by decide))⟩
 |2,_=>⟨_,rfl,.no _ (.str _) ((Ml.str (by decide +kernel)).mono (by decide))⟩
 |3,_=>⟨_,rfl,.no _ (.list _) ((Ml.spots fs).mono (by decide))⟩
 |4,_=>⟨_,rfl,.no _ (.int _) ((Ml.int 5).mono (by decide))⟩
 |j+5,h=>absurd h (lin [j] [] (.j (.A V0 K5) K5) [] rfl)
section
variable {g:Sp->Int}{fs:List Sp}{n:Int}{f:bg}{x4 x5 x6 x7:Option AV}{D:List (Ah×AV)}{X:XL}{K:KR}{k:Int}
theorem ch_end(c:Ch fs n)(d:FD 1 D)(U:∀v,Thg v->∀r:RT,r.sh.with (JC r.os)=v->K r []) :
  wpSs tCh (c_lchanged.body.drop 8) X (chM g fs n f x4 x5 x6 (a0 (.int k))) (chS f D) (λfl Z τ=>CA .any 0 (flV fl) τ K):=by
 refine ifB (λe=>?_) λe=>.inl ⟨rfl,U _ (.dict D d) _ rfl⟩;have u:=c.few;have b:=A5 (a:=n.fdiv 90) (b:=5) (by decide)
 refine X1pp (odd5 fs ((n.fdiv 90).fmod 5).toNat (lin [((n.fdiv 90).fmod 5).toNat] [(n.fdiv 90).fmod 5] (.c V0 K5) [.g V0 K5,.h (.c V0) V0] rfl b.2 (an (lin [] [(n.fdiv 90).fmod 5] (.f K0 V0) [.f K0 V0] rfl b.1)))) λv Y z=>⟨Aq (by unfold iD;rw[Bw];exact lin [fs.length] [] (.b V0 AD) [.b V0 K64] rfl u),⟨⟨b.1,lin [] [(n.fdiv 90).fmod 5] (.g V0 Aw) [.g V0 K5] rfl b.2⟩,v,?_,.inr (U v z _ rfl)⟩⟩
 rw[show ((iD g fs).map λp=>sp p.1)=fs.map sp from Ea _ _]
 exact Y
theorem ch_7(c:Ch fs n)(d:FD 1 D)(U:∀v,Thg v->∀r:RT,r.sh.with (JC r.os)=v->K r []) :
  wpSs tCh (c_lchanged.body.drop 7) X (chM g fs n f x4 x5 x6 (a0 (.int k))) (chS f D) (λfl Z τ=>CA .any 0 (flV fl) τ K):=by
 refine ifB (λe=>?_) λe=>ch_end c d U;have b:=A5 (a:=n.fdiv 900) (b:=3) (by decide)
 refine X1pp (odd3 ((n.fdiv 900).fmod 3).toNat (lin [((n.fdiv 900).fmod 3).toNat] [(n.fdiv 900).fmod 3] (.c V0 K3) [.g V0 K3,.h (.c V0) V0] rfl b.2 (an (lin [] [(n.fdiv 900).fmod 3] (.f K0 V0) [.f K0 V0] rfl b.1)))) λv h1 u=>?_;obtain⟨⟨O,B⟩,T,o,Y,y,_⟩:=c.at (n.fdiv 90);have z:=d.ok.few;exact⟨⟨b.1,lin [] [(n.fdiv 900).fmod 3] (.g V0 Aw) [.g V0 K3] rfl b.2⟩,v,h1,O,B,T,sp o,y,rfl,Aq (lin [D.length] [] (.b V0 AD) [.b V0 Et] rfl z),ch_end c (d.set (.inl (c.bx o Y)) u) U⟩
theorem ch_6(c:Ch fs n)(d:FD 1 D)(U:∀v,Thg v->∀r:RT,r.sh.with (JC r.os)=v->K r []) :
  wpSs tCh (c_lchanged.body.drop 6) X (chM g fs n f x4 x5 x6 (a0 (.int k))) (chS f D) (λfl Z τ=>CA .any 0 (flV fl) τ K):=by
 have z:=d.ok.few;exact ifB (λe=>⟨rfl,Aq (lin [D.length] [] (.b V0 AD) [.b V0 Et] rfl z),ch_7 c (d.set (.inr rfl) rfl) U⟩) λe=>ch_7 c d U
theorem FD.less{n k:Nat}{D:List (Ah×AV)}(h:FD n D)(l:k<=n):FD k D:=⟨h.nd,h.bx,am l h.len⟩
theorem ch_5{T:Sp->Int}(c:Ch fs n)(U:∀v,Thg v->∀r:RT,r.sh.with (JC r.os)=v->K r []) :
  wpSs tCh (c_lchanged.body.drop 5) X (chM g fs n f x4 x5 x6 (a0 (.int k))) (chS f (iD T fs)) (λfl Z τ=>CA .any 0 (flV fl) τ K):=by
 have d:=FD.iD (g:=T) c.nd c.bx c.two;refine ifB (λe=>?_) λe=>ch_6 c (d.less (by decide)) U
 obtain⟨⟨u,z⟩,O,o,ho,y,B⟩:=c.at (n.fdiv 90);have ld:=d.ok.few;have Y:(iD T fs)[((n.fdiv 90).fmod (fs.map sp).length).toNat]?=a0 (o,.int (T o)):=(aM ..).trans (congrArg (Option.map _) B);exact⟨rfl,u,z,O,sp o,y,rfl,Aq (lin [(iD T fs).length] [] (.b V0 AD) [.b V0 Et] rfl ld),_,.int (T o),Y,ch_6 c (d.pop _) U⟩
theorem ch_4{z:Sp->Int}(c:Ch fs n)(Y:∀v,Thg v->∀r:RT,r.sh.with (JC r.os)=v->K r []) :
  wpSs tCh (c_lchanged.body.drop 3) X (chM g fs n f x4 x5 x6 aa) (chS f (iD z fs)) (λfl Z τ=>CA .any 0 (flV fl) τ K):=by
 have u:=c.few;have B:(iD g fs).length=fs.length:=Bw _ _;refine ifB (λe=>⟨Aq (by rw[aj];exact lin [fs.length,(iD g fs).length] [] (.b V1 AD) [.b V0 K64,.d V1 V0] rfl u B),AZ (r:=fs) (g:=sp) (f:=λk=>.tup [sp k,.int (g k+1+(n.fdiv 90).fmod 4)]) (Ea _ _) (λk T y U=>⟨_,Ep T,U⟩) ?_⟩) λe=>ch_5 c Y
 have d:=FD.iD (g:=λk=>g k+1+(n.fdiv 90).fmod 4) c.nd c.bx c.two;refine .inr ⟨iD (λk=>g k+1+(n.fdiv 90).fmod 4) fs,by unfold iD fD;rw[aV];rfl,⟨Aq (by have:=d.ok.few;exact lin [(iD (λk=>g k+1+(n.fdiv 90).fmod 4) fs).length] [] (.b V0 AD) [.b V0 Et] rfl this),d.nd⟩,.inr (Y _ (.dict _ (d.less (by decide))) _ rfl)⟩
end
theorem ch_turn{Y:Sp->Int}{fs:List Sp}{KK:KS}(c:Ch fs n)(j:ChJ Y fs n f d (y::r) m V)(T:M->LS->Prop)(U:∀Ar Ab,ChJ Y fs n f (d++[y]) r Ar Ab->T Ar Ab) :
  patW a6 (.v 4) (.int y) m (λAo=>wpSs tCh [.assign (.v 5) (.sub (.v 3) (.bin .Mod (.call (.g 73) [.v 1,.v 4]) (.call (.g 0) [.v 3]))),.assign (.v 6) (.sub (.list [.int 4,.neg (.int 4),.int 4,.neg (.int 4),.bin .Add (.int 1) (.bin .Mod (.bin .FloorDiv (.v 1) (.int 90)) (.int 9))]) (.bin .Mod (.bin .FloorDiv (.v 1) (.int 2)) (.int 5))),.setitem (.v 2) (.v 5) (.bin .Add (.sub (.v 2) (.v 5)) (.v 6))] X Ao V (Fu aa V T KK)):=by
 induction j using ChJ.casesOn with
 |mk g x4 x5 x6 D e =>
  have u:=c.few;obtain⟨⟨q1,q2⟩,B,o,z,O,_⟩:=c.at ((n * 48271+7919 * y+11).fmod 2147483647);have b:=A5 (a:=n.fdiv 2) (b:=5) (by decide)
  obtain⟨v,h1⟩:=by5 (1+(n.fdiv 90).fmod 9) ((n.fdiv 2).fmod 5).toNat (lin [((n.fdiv 2).fmod 5).toNat] [(n.fdiv 2).fmod 5] (.c V0 K5) [.g V0 K5,.h (.c V0) V0] rfl b.2 (an (lin [] [(n.fdiv 2).fmod 5] (.f K0 V0) [.f K0 V0] rfl b.1)));refine⟨q1,q2,B,sp o,O,⟨b.1,lin [] [(n.fdiv 2).fmod 5] (.g V0 Aw) [.g V0 K5] rfl b.2⟩,.int v,h1,rfl,.int (g o),by rw[e];exact Ep z,rfl,Aq (by rw[e];unfold iD;rw[Bw];exact lin [fs.length] [] (.b V0 AD) [.b V0 K64] rfl u),U _ _ (.mk (upI g o (g o+v)) _ _ _ _ (by rw[e];exact iD_set z))⟩
theorem ch_ok:Mh tCh c_lchanged .any 6 5 fCh:=by
 refine .specF λO V K X h=>Q7.casesOn h λfs g n c Y=>?_;have d:=FD.iD (g:=g) c.nd c.bx c.two;have z:=d.ok.few;have b:=A5 (a:=n) (b:=2) (by decide)
 have ne:iD g fs≠[]:=λe=>by have:=d.len;rw[e]at this;cases this
 refine⟨rfl,.inl ⟨⟨Aq (lin [(iD g fs).length] [] (.b V0 AD) [.b V0 Et] rfl z),ne,d.hash⟩,λf=>⟨Aq (lin [(iD g fs).length] [] (.b V0 AD) [.b V0 Et] rfl z),BZ (by decide) (by decide) (lin [] [n.fmod 2] (.f Bj (.A K1 V0)) [.f K0 V0] rfl b.1) (lin [] [n.fmod 2] (.f (.A K1 V0) Aw) [.g V0 K2] rfl b.2),?_⟩⟩⟩
 rw[show ((iD g fs).map λp=>sp p.1)=fs.map sp from Ea _ _]
 refine AS (g:=.int) (HK 0 _) (ChJ g fs n f) (λd m τ j=>?_) (λd y r m τ j T U=>ch_turn c j T U) (d:=[]) (.mk g _ _ _ _ rfl)
 induction j using ChJ.casesOn with|mk u x4 x5 x6 D e=>subst e;exact ch_4 c Y
end
section
noncomputable def wyS:Bool->Sp
 |false=>(1,0)
 |true=>(0,1)
noncomputable def onS:Sp×Bool->Sp
 |(c,a7)=>(c.1,c.2 - 1)
 |(c,a6)=>(c.1 - 1,c.2)
theorem hdZ(z:Sp×Bool):Hd z.1.1 z.1.2 (wyS z.2) (goS z) (lfS z) (rtS z):=by
 obtain⟨c,b⟩:=z
 cases b
 .exact .r
 .exact .d
theorem twoS(z:Sp×Bool):Two z (onS z) z.1:=by
 obtain⟨c,b⟩:=z
 cases b
 .exact .inl ⟨rfl,rfl⟩
 .exact .inr ⟨rfl,rfl⟩
structure BkE(P:List Sp)(h:Sp->Int)(d:List (Sp×Bool))(E:List (Ah×AV)):Prop where
 len:E.length<=2 * d.length
 fit:∀z∈d,Ew P z->Fit P h z
 goo:Goo P h->∃Ks,E=fD (spm (mOf h)) Ks/\LfK P (mOf h) d Ks
theorem BkE.skip{E:List (Ah×AV)}(B:BkE P h d E)(f:Ew P z->stZ h z=sg (lfS z)):BkE P h (d++[z]) E:=by
 refine⟨by rw[ar];have:=B.len;exact lin [E.length,d.length,[z].length] [] (.b V0 (.M 2 (.A V1 V2))) [.b V0 (.M 2 V1)] rfl this,λy u q=>(aK.mp u).elim (λu=>B.fit y u q) λu=>?_,λG=>?_⟩
 .rw[ay.mp u]at q ⊢;exact .inl (f q)
 .exact X1pp (B.goo G) λKs e L=>⟨Ks,e,L.skip λw=>(G.ht.other (.inl w.1)).mpr w (f (.inl w.1))⟩
theorem BkE.put{E:List (Ah×AV)}(B:BkE P h d E)(t:Two z p r)(q:Ew P z)(f:Fit P h z)(n:stZ h z≠sg (lfS z)):BkE P h (d++[z]) (Bs (Bs E p (sp r)) r (sp p)):=by
 refine⟨?_,λy u q=>(aK.mp u).elim (λu=>B.fit y u q) λu=>by rwa [ay.mp u],λG=>?_⟩
 .have:=B.len
  have:=FJ E p (sp r)
  have:=FJ (Bs E p (sp r)) r (sp p)
  rw[ar];show _<=2 * (_+1)
  omega
 .refine X1pp (B.goo G) λKs e L=>?_
  have w:=(G.ht.other q).mp n;exact⟨_,by rw[e];exact put2 G.mt t w,L.put G.mt t w⟩
noncomputable def Cr(d:List Sp):List (Sp×Bool):=d.flatMap λc=>[(c,a7),(c,a6)]
theorem sds_snoc(d:List Sp)(c:Sp):Cr (d++[c])=Cr d++[(c,a7),(c,a6)]:=by
 unfold Cr;rw[List.flatMap_append];rfl
theorem sds_len(d:List Sp):(Cr d).length=2 * d.length:=by
 induction d with
 |nil=>rfl
 |cons c d y =>
  have e:(Cr (c::d)).length=(Cr d).length+2:=by unfold Cr;rw[ig,ar];exact Nat.add_comm ..
  rw[e,aL];exact aq (lin [(Cr d).length,d.length] [] (.b (.A V0 K2) (.M 2 (.A V1 K1))) [.d V0 (.M 2 V1)] rfl y) (lin [(Cr d).length,d.length] [] (.b (.M 2 (.A V1 K1)) (.A V0 K2)) [.D (-1) V0 (.M 2 V1)] rfl y)
theorem BkE.fin{E:List (Ah×AV)}(B:BkE P h (Cr fs) E)(y:Cor P C)(T:∀k,k∈fs↔k∈C):Goo P h/\∃Ks,E=fD (spm (mOf h)) Ks/\Ks.Nodup/\∀k,k∈Ks↔k∈P:=by
 have all:∀z,Ew P z->z∈Cr fs:=λz q=>dY.mpr ⟨z.1,(T _).mpr (C9 y q).1,by
  obtain⟨c,b⟩:=z
  cases b
  .exact .head _
  .exact .tail _ (.head _)⟩
 have G:Goo P h:=λz q=>B.fit z (all z q) q;refine X1pp (B.goo G) λKs e L=>⟨G,Ks,e,L.nd,λk=>⟨L.inP k,λu=>(X1pp (G.mt.side u) λz w i=>(An (L.all z (all z (.inl w.1)) w) λO Y=>?_))⟩⟩
 rcases i with i|i
 .rwa [i]
 .rwa [i]
inductive Q5(K:KR):List AV->LS->Prop
 |dict (G:Gr)(P C:List Sp)(a:Sp)(Ks:List Sp)(m:Sp->Sp)(h:Sp->Int)(D:List (Ah×AV))(c0:(Flr P C a/\Lyd P Ks m h)/\DOk D)(c1:¬HOK P C a D->K ⟨[],.val .none⟩ [])(c2:∀h,Nums C D h->h a=0->Goo P h->∀Ks',Ks'.Nodup->(∀k,k∈Ks'↔k∈P)->K ⟨[.dict (fD (spm (mOf h)) Ks')],.new 0⟩ []):Q5 K [.list (AA G),.dict (fD (spm m) Ks),.dict D] []
 |no (G:Gr)(P C:List Sp)(a:Sp)(Ks:List Sp)(m:Sp->Sp)(h:Sp->Int)(v:AV)(c0:(Flr P C a/\Lyd P Ks m h)/\NoD v)(c1:K ⟨[],.val .none⟩ []):Q5 K [.list (AA G),.dict (fD (spm m) Ks),v] []
noncomputable def fBk:FS:=specF λavs V K Z=>Q5 K avs V
noncomputable abbrev tBk:Tab:=⟨a6,[],[(105,fNum5),(104,Lv)],[],[(89,kyF)]⟩
noncomputable def bkM(G:Gr)(E0 D:List (Ah×AV))(F0:List (Ah×AV))(x5:Option AV)(f:bg)(N0:List (Ah×AV))(x8 x9 x10 x11 x12:Option AV):M:=[a0 (.list (AA G)),a0 (.dict E0),a0 (.dict D),a0 (.dict F0),aa,x5,a0 (.loc f 4),a0 (.dict N0),x8,x9,x10,x11,x12]
noncomputable def bkS(f:bg)(E:List (Ah×AV)):LS:=[.no,.no,.no,.no,.at f (.dict E)]
theorem JP{mu:Option Nat}{K:KV}(e:(A2 D k).getD (.int 0)=.int z)(h:K (.int (z - y)) V):binW li mu .Sub ((A2 D k).getD (.int 0)) (.int y) V K:=by
 rwa [e]
theorem pat2W(h:f (Ev (Ev m i a) j b)):patW a6 (.tup [.v i,.v j]) (.tup [a,b]) m f:=h
theorem nums0(N:Nums C D h0):∃h,Nums C D h/\∀k,(A2 D k).getD (.int 0)=.int (h k):=by
 refine⟨λk=>intOf (A2 D k),⟨N.mem,λk B=>by rw[N.at_ k B];rfl⟩,λk=>?_⟩
 show (A2 D k).getD (.int 0)=.int (intOf (A2 D k))
 cases e:A2 D k with
 |none=>rfl
 |some x =>
  have:=N.at_ k ((N.mem k).mp (dget_isS.mp (by rw[e];rfl)))
  rw[e]at this;rw[ae this];rfl
section
variable {G:Gr}{P C:List Sp}{a:Sp}{Ks:List Sp}{m0:Sp->Sp}{h0:Sp->Int}{D F0:List (Ah×AV)}{h:Sp->Int}{f:bg}{X:XL}
inductive BkI(G:Gr)(P:List Sp)(E0 D F0 N0:List (Ah×AV))(f:bg)(h:Sp->Int)(d:List Sp)(c:Sp)(e r:List Bool):M->LS->Prop
 |mk (x5 x10 x11 x12:Option AV)(E:List (Ah×AV))(B:BkE P h (Cr d++e.map λb=>(c,b)) E):BkI G P E0 D F0 N0 f h d c e r (bkM G E0 D F0 x5 f N0 (a0 (.int c.1)) (a0 (.int c.2)) x10 x11 x12) (bkS f E)
noncomputable def twA(c:Sp)(b:Bool):AV:=.tup [sp (wyS b),sp (onS (c,b))]
theorem bk_turn{KK:KS}(F:Flr P C a)(L:Lyd P Ks m0 h0)(N:Nums C D h)(N0:∀k,(A2 D k).getD (.int 0)=.int (h k))(ld:d.length<=64)(le:e.length<=2)(hc:c∈C)
  (j:BkI G P (fD (spm m0) Ks) D F0 (fD (pvo aa) Ks) f h d c e (b::r) m V) (CC:M->LS->Prop) (T:∀Ar Ab,BkI G P (fD (spm m0) Ks) D F0 (fD (pvo aa) Ks) f h d c (e++[b]) r Ar Ab->CC Ar Ab) (hK:¬Goo P h->∀m V,KK (.ret .none) m V) :
  patW a6 (.tup [.v 10,.v 5]) (twA c b) m (λAo=>wpSs tBk [.assign (.v 11) (.call (.g 104) [.v 7,.tup [.v 8,.v 9],.v 10]),.assign (.v 12) (.bin .Sub (.meth (.v 2) 6 [.tup [.bin .Add (.v 8) (.sub (.v 10) (.int 0)),.bin .Add (.v 9) (.sub (.v 10) (.int 1))],.int 0]) (.sub (.v 2) (.tup [.v 8,.v 9]))),.ite (.and [.cmp .IsNot (.v 11) .none,.cmp .NotEq (.v 12) (.v 11)]) [.ite (.or [.cmp .NotIn (.v 5) (.v 1),.cmp .NotIn (.tup [.v 8,.v 9]) (.v 1),.cmp .NotEq (.v 12) (.bin .Mult (.neg (.int 3)) (.v 11))]) [.ret .none] [],.setitem (.v 6) (.v 5) (.tup [.v 8,.v 9]),.setitem (.v 6) (.tup [.v 8,.v 9]) (.v 5)] []] X Ao V (Fu aa V CC KK)):=by
 induction j using BkI.casesOn with
 |mk x5 x10 U x12 E B =>
  have lE:E.length<=300:=by have:=B.len;rw[ar,aj,sds_len]at this;exact lin [d.length,e.length,E.length] [] (.b V2 K300) [.B 4 V0 K64,.B 2 V1 K2,.b V2 (.M 2 (.A (.M 2 V0) V1))] rfl ld le this
  have app:(Cr d++e.map λb=>(c,b))++[(c,b)]=Cr d++(e++[b]).map λb=>(c,b):=by rw[a9,aH];rfl
  have hd:=hdZ (c,b);have ho:(A2 D (c.1+(wyS b).1,c.2+(wyS b).2)).getD (.int 0)=.int (h (goS (c,b))):=by rw[N0];exact congrArg (λk=>AV.int (h k)) hd.o.symm
  have t:=twoS (c,b);have skip:(Ew P (c,b)->stZ h (c,b)=sg (lfS (c,b)))->∀U,CC (bkM G (fD (spm m0) Ks) D F0 (a0 (sp (onS (c,b)))) f (fD (pvo aa) Ks) (a0 (.int c.1)) (a0 (.int c.2)) (a0 (sp (wyS b))) U (a0 (.int (stZ h (c,b))))) (bkS f E):=λq U=>T _ _ (.mk _ _ _ _ _ (app▸B.skip q));refine .mk Ks aa c.1 c.2 (wyS b) _ _ _ ⟨hd,F.cAbs hc⟩ (λq=>?_) λq=>?_
  .have q':Ew P (c,b):=q.imp (L.mem _).mp (L.mem _).mp
   refine⟨_,N.at_ c hc,JP ho (ifB (λy=>?_) λy=>skip (λZ=>eq_of_beq (DW y)) _)⟩;have y:stZ h (c,b)≠sg (lfS (c,b)):=λz=>by
    have:(!(stZ h (c,b) == sg (lfS (c,b))))=a6:=y
    rw[z,beq_self_eq_true]at this;exact nF this
   have bad:¬Fit P h (c,b)->∀m V,KK (.ret .none) m V:=λn=>hK λG=>n (G _ q');have two:∀{S:List Sp},onS (c,b)∈S/\c∈S↔lfS (c,b)∈S/\rtS (c,b)∈S:=λ{S}=>by
    have t2:(onS (c,b)=lfS (c,b)/\c=rtS (c,b))\/(onS (c,b)=rtS (c,b)/\c=lfS (c,b)):=t;generalize onS (c,b)=p,lfS (c,b)=u,rtS (c,b)=v at t2 ⊢
    rcases t2 with⟨rfl,rfl⟩|⟨rfl,rfl⟩
    .exact Iff.rfl
    .exact and_comm
   refine⟨decide (onS (c,b)∈Ks),EP _ _ _,?_⟩
   by_cases i1:onS (c,b)∈Ks
   .rw[decide_eq_true i1]
    refine⟨decide (c∈Ks),EP _ _ _,?_⟩
    by_cases O:c∈Ks
    .rw[decide_eq_true O]
     refine An (two.mp ⟨i1,O⟩) λj1 j2=>⟨eU (by decide +kernel),ifB (λY=>bad (λf=>f.elim y λf=>?_) _ _) λY=>?_⟩
     .have:(!(stZ h (c,b) == -3 * sg (lfS (c,b))))=a6:=Y
      rw[f.1,beq_self_eq_true]at this;exact nF this
     .have Y:stZ h (c,b)=-3 * sg (lfS (c,b)):=eq_of_beq (DW Y)
      exact⟨rfl,Aq (lin [E.length] [] (.b V0 AD) [.b V0 K300] rfl lE),rfl,Aq (am (FJ ..) (lin [E.length] [] (.b (.A V0 K1) AD) [.b V0 K300] rfl lE)),T _ _ (.mk _ _ _ _ _ (app▸B.put t q' (.inr ⟨Y,(L.mem _).mp j1,(L.mem _).mp j2⟩) y))⟩
    .rw[decide_eq_false O]
     exact bad (λf=>f.elim y λf=>O (two.mpr ⟨(L.mem _).mpr f.2.1,(L.mem _).mpr f.2.2⟩).2) _ _
   .rw[decide_eq_false i1]
    exact bad (λf=>f.elim y λf=>i1 (two.mpr ⟨(L.mem _).mpr f.2.1,(L.mem _).mpr f.2.2⟩).1) _ _
  .exact⟨_,N.at_ c hc,JP ho (skip (λz=>absurd (z.imp (L.mem _).mpr (L.mem _).mpr) q) _)⟩
theorem bk_for{K:KS}(h:Jm a6 (.tup [.v 10,.v 5]) (wpSs tBk body X) aa (kSeq (wpSs tBk [] X) K) ([a7,a6].map (twA c)) (bkM G E0 D F0 x5 f N0 (a0 (.int c.1)) (a0 (.int c.2)) x10 x11 x12) V) :
  wpSs tBk [.for_ (.tup [.v 10,.v 5]) (.list [.tup [.tup [.int 1,.int 0],.tup [.v 8,.bin .Sub (.v 9) (.int 1)]],.tup [.tup [.int 0,.int 1],.tup [.bin .Sub (.v 8) (.int 1),.v 9]]]) body] X (bkM G E0 D F0 x5 f N0 (a0 (.int c.1)) (a0 (.int c.2)) x10 x11 x12) V K:=h
inductive BkJ(G:Gr)(P:List Sp)(E0 D F0 N0:List (Ah×AV))(f:bg)(h:Sp->Int)(d r:List Sp):M->LS->Prop
 |mk (x5 x8 x9 x10 x11 x12:Option AV)(E:List (Ah×AV))(B:BkE P h (Cr d) E):BkJ G P E0 D F0 N0 f h d r (bkM G E0 D F0 x5 f N0 x8 x9 x10 x11 x12) (bkS f E)
theorem bk_loop{K:KR}(F:Flr P C a)(L:Lyd P Ks m0 h0)(N:Nums C D h)(N0:∀k,(A2 D k).getD (.int 0)=.int (h k))(nd:fs.Nodup)(hm:∀k,k∈fs↔k∈C)(hn:¬Goo P h->K ⟨[],.val .none⟩ [])(hy:Goo P h->∀y,y.Nodup->(∀k,k∈y↔k∈P)->K ⟨[.dict (fD (spm (mOf h)) y)],.new 0⟩ []) :
  wpSs tBk (c_lback.body.drop 6) X (bkM G (fD (spm m0) Ks) D (iD g fs) aa f (fD (pvo aa) Ks) aa aa aa aa aa) (bkS f []) (λfl Z τ=>CA .any 0 (flV fl) τ K):=by
 have lf:fs.length<=63:=by have:=same_length nd (BC F.co.up) hm;have:=F.co.few;omega
 refine AS (r:=fs) (g:=sp) (Ea _ _) (λd r m V=>d++r=fs/\BkJ G P (fD (spm m0) Ks) D (iD g fs) (fD (pvo aa) Ks) f h d r m V) (λd m τ j=>?_) (λd c r m τ j CC hCC=>?_) (d:=[]) ⟨rfl,.mk _ _ _ _ _ _ _ ⟨cR _,λz hz=>(by cases hz),λZ=>⟨[],rfl,.nil,λZ h=>(nM h),λZ h=>(by cases h)⟩⟩⟩
 .refine An j λu j=>?_
  rw[aF]at u;clear nd lf;subst u
  induction j using BkJ.casesOn with
  |mk x5 x8 x9 O U Y E B =>
   refine An (B.fin F.co hm) λG Z0=>X1ppp Z0 λy e n1 n2=>?_;clear B j Z0;subst e;exact .inl ⟨rfl,hy G y n1 n2⟩
 .refine An j λu j=>?_
  have ld:=Cd u;have cf:c∈fs:=by rw[<- u];exact bF _ (.head _)
  induction j using BkJ.casesOn with
  |mk x5 x8 x9 O U Y E B =>
   refine pat2W (bk_for (c:=c) (AS (r:=[a7,a6]) (g:=twA c) rfl (λe r m V=>e++r=[a7,a6]/\BkI G P (fD (spm m0) Ks) D (iD g fs) (fD (pvo aa) Ks) f h d c e r m V) (λe m τ j=>?_) (λe b r m τ j C2 hC2=>?_) (d:=[]) ⟨rfl,.mk _ _ _ _ E (by rw[iJ,aF];exact B)⟩))
   .refine An j λT j=>?_
    rw[aF]at T;subst T
    induction j using BkI.casesOn with|mk x5 O U Y E B=>exact hCC _ _ ⟨by rwa [aH],.mk _ _ _ _ _ _ E (by rw[sds_snoc];exact B)⟩
   .refine An j λT j=>?_
    have le:=Cd T;exact bk_turn F L N N0 (lin [fs.length,d.length] [] (.b V1 K64) [.b V0 K63,.c V1 V0] rfl lf ld) (cZ le) ((hm c).mp cf) j C2 (λAr Ab h=>hC2 _ _ ⟨by rwa [aH],h⟩) λn Z Z=>.inr (hn n)
end
theorem any_id{l:List α}:(l.map f).any id=a7↔∀x∈l,f x=a7:=by
 rw[iF,List.any_eq_false];exact⟨λh x u=>b8.mpr (h x u),λh x u=>b8.mp (h x u)⟩
theorem nob_eq:(Ks.map λk=>AV.tup [sp k,.none])=(fD (pvo aa) Ks).map pvA:=by
 unfold fD;rw[aV];rfl
theorem nob_nd(y:Ks.Nodup):((fD (pvo aa) Ks).map (·.1)).Nodup:=by
 have e:(fD (pvo aa) Ks).map (·.1)=Ks:=(Gq (f:=pvo aa) (l:=Ks) id).trans (fw _)
 rwa [e]
theorem sortD{P Ks:List Sp}{V:LS}{K:KV}(y:Ks.Nodup)(up:P.Pairwise lt2)(T:∀k,k∈Ks↔k∈P)(u:P.length<64)(h:K (.list (P.map sp)) V):sortW kyF aa ((fD f Ks).map λp=>sp p.1) V K:=by
 rw[Ea];exact sortW.spots y up T u h
noncomputable def bkN(G:Gr)(E0:List (Ah×AV))(v:AV)(F0:List (Ah×AV)):M:=[a0 (.list (AA G)),a0 (.dict E0),a0 v,a0 (.dict F0),aa,aa,aa,aa,aa,aa,aa,aa,aa]
noncomputable def bkZ:LS:=[.no,.no,.no,.no,.no]
structure BkW(P C:List Sp)(a:Sp)(Ks:List Sp)(m:Sp->Sp)(h:Sp->Int)(fs:List Sp):Prop where
 F:Flr P C a
 L:Lyd P Ks m h
 nd:fs.Nodup
 hm:∀k,k∈fs↔k∈C
theorem Fn(h:Ks.length<=36):((fD f Ks).map λp=>sp p.1).length<=big/\(fD f Ks).length<=big:=by
 rw[aj,Bw];exact⟨Aq (am h (by decide)),Aq (am h (by decide))⟩
section
variable {G:Gr}{P C:List Sp}{a:Sp}{Ks fs:List Sp}{m:Sp->Sp}{h0:Sp->Int}{D:List (Ah×AV)}{g:Sp->Int}{X:XL}{K:KR}
theorem BkW.len(W:BkW P C a Ks m h0 fs):fs.length=C.length/\fs.length<=63:=by
 have e:=same_length W.nd (BC W.F.co.up) W.hm
 have:=W.F.co.few
 exact⟨e,lin [fs.length,C.length] [] (.b V0 K63) [.d V0 V1,.c V1 K64] rfl e this⟩
theorem BkW.lf(W:BkW P C a Ks m h0 fs)(g:Sp->Int):((iD g fs).map λp=>sp p.1).length<=big:=by
 rw[aj];exact Aq (by unfold iD;rw[Bw];exact am W.len.2 (by decide))
theorem bk_t3{h:Sp->Int}(W:BkW P C a Ks m h0 fs)(N:Nums C D h)(B:∀k,(A2 D k).getD (.int 0)=.int (h k))(T:¬HOK P C a D->K ⟨[],.val .none⟩ [])(u:∀h,Nums C D h->h a=0->Goo P h->∀Ks',Ks'.Nodup->(∀k,k∈Ks'↔k∈P)->K ⟨[.dict (fD (spm (mOf h)) Ks')],.new 0⟩ []) :
  wpSs tBk (c_lback.body.drop 3) X (bkN G (fD (spm m) Ks) (.dict D) (iD g fs)) bkZ (λfl Z τ=>CA .any 0 (flV fl) τ K):=by
 obtain⟨F,L,nd,y⟩:=W;refine An (Fn (f:=spm m) (L.len F.few)) λz d=>⟨d,sortD L.nd F.up L.mem (cW F.few (by decide)) ⟨sp a,by refine X1p F.ne λP' e=>?_;rw[e];rfl,_,N.at_ a F.aC,?_⟩⟩
 refine ifB (λO=>.inr (T λH=>?_)) λO=>λf=>?_
 .rw[(H.of F.co F.aC N).1]at O;exact nF O
 have O:h a=0:=eq_of_beq (DW O);exact⟨z,AZ (r:=Ks) (g:=sp) (f:=λk=>.tup [sp k,.none]) (Ea _ _) (λk Y CC U=>U) (.inr ⟨_,nob_eq,⟨(Fn (L.len F.few)).2,nob_nd L.nd⟩,bk_loop F L N B nd y (λn=>T λH=>n (H.of F.co F.aC N).2) λG=>u h N O G⟩)⟩
theorem bk_t2(W:BkW P C a Ks m h0 fs)(d:DOk D)(mem:∀k,k∈D.map (·.1)↔k∈C)(O:¬HOK P C a D->K ⟨[],.val .none⟩ [])(hy:∀h,Nums C D h->h a=0->Goo P h->∀Ks',Ks'.Nodup->(∀k,k∈Ks'↔k∈P)->K ⟨[.dict (fD (spm (mOf h)) Ks')],.new 0⟩ []) :
  wpSs tBk (c_lback.body.drop 2) X (bkN G (fD (spm m) Ks) (.dict D) (iD g fs)) bkZ (λfl Z τ=>CA .any 0 (flV fl) τ K):=by
 have y:∀c∈fs,∃x,A2 D c=a0 x:=λc Y=>bj.mp (dget_isS.mpr ((mem c).mpr ((W.hm c).mp Y)));refine⟨W.lf g,AZ (r:=fs) (g:=sp) (f:=λc=>.bool (!(wB ((A2 D c).getD .none)))) (Ea _ _) (λc Y CC U=>?_) ?_⟩
 .refine X1p (y c Y) λx u=>?_
  have px:=d.pl _ (Hv u);rw[u]at U
  cases x with|int z=>exact⟨_,u,_,u,U⟩|bool z=>exact⟨_,u,_,u,U⟩|str z=>exact⟨_,u,U⟩|none=>exact⟨_,u,U⟩|_=>exact(aQ px).elim
 refine⟨fs.map λc=>!(wB ((A2 D c).getD .none)),by rw[aV];rfl,ifB (λB=>.inr (O λ⟨h,N,_⟩=>?_)) λB=>?_⟩
 .rw[any_id.mpr λc Y=>by rw[N.at_ c ((W.hm c).mp Y)];rfl]at B;exact nF B
 have B:=any_id.mp B;obtain⟨h,N,N0⟩:=nums0 (C:=C) (D:=D) (h0:=λk=>intOf (A2 D k)) ⟨mem,λk T=>by
  refine X1p (y k ((W.hm k).mpr T)) λx u=>?_;have w:=B k ((W.hm k).mpr T);rw[u]at w ⊢;refine X1p (wB_int (DW w)) λz Z0=>?_;subst Z0
  rfl⟩
 exact bk_t3 W N N0 O hy
theorem bk_t1(W:BkW P C a Ks m h0 fs)(d:DOk D)(Y:¬HOK P C a D->K ⟨[],.val .none⟩ [])(hy:∀h,Nums C D h->h a=0->Goo P h->∀Ks',Ks'.Nodup->(∀k,k∈Ks'↔k∈P)->K ⟨[.dict (fD (spm (mOf h)) Ks')],.new 0⟩ []) :
  wpSs tBk (c_lback.body.drop 1) X (bkN G (fD (spm m) Ks) (.dict D) (iD g fs)) bkZ (λfl Z τ=>CA .any 0 (flV fl) τ K):=by
 have z:=BC W.F.co.up;refine An W.len λB O=>?_;have y:=d.few;have lf:(iD g fs).length=fs.length:=Bw _ _;refine⟨Aq (lin [D.length] [] (.b V0 AD) [.b V0 Et] rfl y),Aq (lin [fs.length,(iD g fs).length] [] (.b V1 AD) [.b V0 K63,.d V1 V0] rfl O lf),ifB (λe=>.inr (Y λ⟨h,N,_⟩=>?_)) λe=>?_⟩
 .rw[lf,B,N.len d z,beq_self_eq_true]at e;exact nF e
 have e:D.length=C.length:=by have:=eq_of_beq (DW e);exact aq (lin [fs.length,C.length,(iD g fs).length,D.length] [] (.b V3 V1) [.d V0 V1,.d V2 V0,.h (.c V3) (.c V2)] rfl B lf this) (lin [fs.length,C.length,(iD g fs).length,D.length] [] (.b V1 V3) [.D (-1) V0 V1,.D (-1) V2 V0,.H (-1) (.c V3) (.c V2)] rfl B lf this)
 refine⟨W.lf g,AZ (r:=fs) (g:=sp) (f:=λc=>.bool (A2 D c).isSome) (Ea _ _) (λc u CC U=>⟨_,rfl,U⟩) ⟨fs.map λc=>(A2 D c).isSome,by rw[aV];rfl,ifB (λT=>.inr (Y λ⟨h,N,_⟩=>?_)) λT=>?_⟩⟩
 .rw[all_id.mpr λc u=>dget_isS.mpr ((N.mem c).mpr ((W.hm c).mp u))]at T;exact nF T
 have T:=all_id.mp (DW T);exact bk_t2 W d (HU d z e λc u=>T c ((W.hm c).mpr u)) Y hy
theorem bk_0{v:AV}(F:Flr P C a)(L:Lyd P Ks m h0)(h:∀g fs,BkW P C a Ks m h0 fs->wpSs tBk (c_lback.body.drop 1) X (bkN G (fD (spm m) Ks) v (iD g fs)) bkZ (λfl Z τ=>CA .any 0 (flV fl) τ K)) :
  wpSs tBk c_lback.body X [a0 (.list (AA G)),a0 (.dict (fD (spm m) Ks)),a0 v,aa,aa,aa,aa,aa,aa,aa,aa,aa,aa] bkZ (λfl Z τ=>CA .any 0 (flV fl) τ K):=by
 have l:=L.len F.few;exact⟨(Fn l).1,AZ (r:=Ks) (g:=sp) (f:=λk=>.tup [sp k,.none]) (Ea _ _) (λk B Y U=>U) (.inr ⟨_,nob_eq,⟨(Fn l).2,nob_nd L.nd⟩,.mk P C a Ks aa (λZ Z=>True) ⟨F,L.goes0 a⟩ λg fs nd T Z=>h g fs ⟨F,L,nd,T⟩⟩)⟩
end
theorem bk_ok:Mh tBk c_lback .any 10 5 fBk:=by
 refine .specF λy V K X h=>Q5.casesOn h (λG P C a Ks m h0 D hz O u=>⟨rfl,bk_0 hz.1.1 hz.1.2 λg fs W=>bk_t1 W hz.2 O u⟩) (λG P C a Ks m h0 v hz U=>⟨rfl,bk_0 hz.1.1 hz.1.2 λg fs W=>(An hz λZ o=>?_)⟩)
 induction o using NoD.casesOn<;>exact .inr U
end
section
inductive Q3(K:KR):List AV->LS->Prop
 |yes (t:AV)(P C:List Sp)(a:Sp)(D:List (Ah×AV))(h:Sp->Int)(m:Sp->Sp)(c0:(Flr P C a/\DOk D)/\(Nums C D h/\h a=0)/\Mt P m/\HT P m h)(c1:K ⟨[.list ((Dd P m).map pcA)],.list [.new 0,.val (.bool a6)]⟩ []):Q3 K [AJ t P,.dict D] []
 |bad (t:AV)(P C:List Sp)(a:Sp)(D:List (Ah×AV))(c0:(Flr P C a/\DOk D)/\¬HOK P C a D)(c1:K ⟨[],.list [.val .none,.val (.bool a6)]⟩ []):Q3 K [AJ t P,.dict D] []
 |no (t:AV)(P:List Sp)(v:AV)(c0:NoD v)(c1:K ⟨[],.list [.val .none,.val (.bool a6)]⟩ []):Q3 K [AJ t P,v] []
noncomputable def fAsked5:FS:=specF λavs V K X=>Q3 K avs V
theorem L9(y:List AV)(V:LS)(K:KR)(X:XL)(h:fAsked5.spec y V K X):∃rs,tryW ⟨a6,[25,18],[(51,fLf)],[],[]⟩ ⟨a7,exs,[(79,LD 25 6)],[],[]⟩ GF (.list [.mu 4 (.call (.g 51) [.v 0,.v 1]),.bool a6]) 18 2 [.ret (.list [.none,.call (.g 79) [.v 2,.int 6]])] rs 1 5 y V K:=by
 refine Q3.casesOn h (λt P C a D h m hz U=>?_) (λt P C a D hz U=>?_) (λt P v o U=>?_)
 .exact⟨.list [.new,.val],rfl,.yes t P C a D h m hz λc=>⟨rfl,U⟩⟩
 .exact⟨.list [.val,.val],rfl,.bad t P C a D hz ⟨rfl,U⟩⟩
 .refine⟨.list [.val,.val],?_⟩
  induction o using NoD.casesOn with|none=>exact⟨rfl,.no t P _ .none ⟨rfl,U⟩⟩|str x=>exact⟨rfl,.no t P _ (.str x) ⟨rfl,U⟩⟩|int x=>exact⟨rfl,.no t P _ (.int x) ⟨rfl,U⟩⟩|list x=>exact⟨rfl,.no t P _ (.list x) ⟨rfl,U⟩⟩
theorem Ml.pc(q:Ah×Ah):Ml 2 (pcA q):=Ml.tup λx u=>by
 rcases az.mp u with rfl|u
 .exact Ml.sp _
 .rw[ay.mp u];exact Ml.sp _
theorem Ml.pcs(l:List (Ah×Ah)):Ml 3 (.list (l.map pcA)):=Ml.list λx u=>by
 refine X1pp (aJ.mp u) λq Z z=>?_;clear u;subst z;exact Ml.pc q
noncomputable abbrev DL:Tab:=⟨a6,[],[(88,Il),(87,fDrawn),(72,fAt),(29,fFloor),(105,fNum5),(107,fCh),(108,fBk),(50,fIsH),(101,fAsked5),(51,fLf),(90,fTold)],[],[]⟩
structure L5(l:List Int)(G:Gr)(C Ks:List Sp)(a:Sp)(m:Sp->Sp)(h:Sp->Int):Prop where
 hl:l.length<=1000
 F:Flr (Ae G) C a
 L:Lyd (Ae G) Ks m h
noncomputable def l5M(l:List Int)(G:Gr)(E0:List (Ah×AV))(v:AV)(n:Int)(due:Option AV)(x7 x8 x9 x10 x11:Option AV):M:=[a0 (.nums l),a0 (.list (AA G)),a0 (.dict E0),a0 (AJ (.list (AA G)) (Ae G)),a0 v,a0 (.int n),due,x7,x8,x9,x10,x11]
noncomputable def l5S(s4 s5:Slot):LS:=[.no,.no,.no,.no,s4,s5]
theorem HT.sub(H:HT P m h)(a:Sp):HT P m λk=>h k - h a :=
 ⟨λx y q=>by have:=H.r x y q;show h (x+1,y) - h a - (h (x,y) - h a)=_;exact af (lin [] [h (x+1,y),h (x,y),stp P m (x,y - 1) (x,y),h a] (.f (.S (.S V0 V3) (.S V1 V3)) V2) [.h (.S V0 V1) V2] rfl this) (lin [] [h (x+1,y),h (x,y),stp P m (x,y - 1) (x,y),h a] (.f V2 (.S (.S V0 V3) (.S V1 V3))) [.H (-1) (.S V0 V1) V2] rfl this),λx y q=>by have:=H.d x y q;show h (x,y+1) - h a - (h (x,y) - h a)=_;exact af (lin [] [h (x,y+1),h (x,y),stp P m (x,y) (x - 1,y),h a] (.f (.S (.S V0 V3) (.S V1 V3)) V2) [.h (.S V0 V1) V2] rfl this) (lin [] [h (x,y+1),h (x,y),stp P m (x,y) (x - 1,y),h a] (.f V2 (.S (.S V0 V3) (.S V1 V3))) [.H (-1) (.S V0 V1) V2] rfl this)⟩
theorem iD_keys(g:Sp->Int)(fs:List Sp):(iD g fs).map (·.1)=fs:=(Gq (f:=λk=>.int (g k)) (l:=fs) id).trans (fw _)
theorem nums_iD{g h:Sp->Int}{a:Sp}(T:∀k,k∈fs↔k∈C)(d:∀k∈fs,g k=h k - h a):Nums C (iD g fs) λk=>h k - h a :=
 ⟨λk=>by rw[iD_keys];exact T k,λk B=>by rw[<- d k ((T k).mpr B)];exact Ep ((T k).mpr B)⟩
theorem Flr.ch(F:Flr P C a)(z:fs.Nodup)(T:∀k,k∈fs↔k∈C)(n:Int):Ch fs n:=by
 have e:=same_length z (BC F.co.up) T;have y:=F.co.few;refine⟨z,λk B=>F.cSm ((T k).mp B),?_,lin [fs.length,C.length] [] (.b V0 K64) [.d V0 V1,.c V1 K64] rfl e y⟩;have O:(a.1+1,a.2)∈C:=(F.co.mem _).mpr ⟨a,F.ha,A3 (.inr rfl) (.inl rfl)⟩
 have:=sub_length (l:=[a,(a.1+1,a.2)]) (k:=C) (.cons (λb U e=>by
  rw[ay.mp U]at e
  have:a.1=a.1+1:=congrArg dK e
  exact lin [] [a.fst] .no [.H (-1) V0 (.A V0 K1)] rfl this) (Kr _)) λx u=>by
   rcases az.mp u with rfl|u
   .exact F.aC
   .rwa [ay.mp u]
 rwa [e]
section
variable {l:List Int}{G:Gr}{C Ks:List Sp}{a:Sp}{m:Sp->Sp}{h:Sp->Int}{v:AV}{n:Int}{a4:bg}{s4 s5:Slot}{X:XL}{KK:KS}
theorem EO(W:L5 l G C Ks a m h)(hK:∀x10 x11,wpSs DL (c_law5.body.drop 15) X (l5M l G (fD (spm m) Ks) v n due x7 x8 x9 x10 x11) (l5S s4 s5) KK) :
  wpSs DL (c_law5.body.drop 12) X (l5M l G (fD (spm m) Ks) v n due x7 x8 x9 aa aa) (l5S s4 s5) KK:=by
 refine⟨l,6,rfl,W.hl,rfl,Ae G,C,a,Ks,m,h,l.getD 6 0,9,rfl,rfl,⟨W.F,W.L,by decide,by decide⟩,λU z y=>(.mk (Ae G) C a Ks (a0 U) _ ⟨W.F,y.goes a⟩ λg fs u T O=>?_)⟩
 have N:=nums_iD T O;have d:=(FD.iD (g:=g) u (W.F.ch u T 0).bx (W.F.ch u T 0).two).ok;have H:=y.ht.sub a;have Y:z a - z a=0:=iM _;refine .dict _ (Ae G) C a _ ⟨W.F,d⟩ λb B=>?_;obtain rfl:=B.mpr ⟨_,N,Y,H.goo y.mt⟩;exact .yes _ (Ae G) C a _ _ U ⟨⟨W.F,d⟩,⟨N,Y⟩,y.mt,H⟩ ⟨Ae G,Ks,U,z,rfl,rfl,⟨W.F.few,W.F.up,y⟩,a6,(Ml.pcs _).eq (by decide),hK _ _⟩
structure NoH(G:Gr)(v:AV):Prop where
 isF:∀{V:LS}{K:KV},K (.bool a7) V->G6 fIsH aa [AJ (.list (AA G)) (Ae G),v] V K BU
 askF:∀{V:LS}{K:KV},K (.list [.none,.bool a6]) V->G6 fAsked5 (a0 4) [AJ (.list (AA G)) (Ae G),v] V K BU
 eqF:∀{V:LS}{K:Bool->Prop},K a6->eqW v v V K
theorem giveN{K:KV}{v:AV}(e:r.sh.with (JC r.os)=v)(h:K v V):Fz aa r V K:=by
 rw[<- e]at h;exact h
theorem neW{a b:AV}{m:M}{V:LS}{K:KB}{r:List WT}(hi:m.getD i aa=a0 a)(z:m.getD j aa=a0 b)(h:eqW a b V λt=>ifW (!t) (K a6 V) (orT r m V K)):orT (wp Φ (.cmp .NotEq (.v i) (.v j)) X::r) m V K:=by
 show (match m.getD i aa with
  |some a=>(match m.getD j aa with
   |some b=>eqW a b V λt=>ifW (!t) (K a6 V) (orT r m V K)
   |aa=>False)
  |aa=>False)
 rwa [hi,z]
theorem iteOr{a b rest:List Internal.S}{X:XL}{m:M}{V:LS}{K:KS}(h:orT (wpL Φ es X) m V (λt Aa=>ifW t (wpSs Φ a X m Aa (kSeq (wpSs Φ rest X) K)) (wpSs Φ b X m Aa (kSeq (wpSs Φ rest X) K)))):wpSs Φ (.ite (.or es) a b::rest) X m V K:=h
theorem eqB(b:Bool):EqP (.bool b) (.bool b) a6:=(Ml.bool b).eq (by decide)
theorem law5_cmp(e:∀{V:LS}{K:Bool->Prop},K a6->eqW v v V K)(U:wpSs DL (c_law5.body.drop 12) X (l5M l G E0 v n due (a0 v) x8 (a0 (.list [y,.bool a6])) aa aa) V KK) :
  wpSs DL (c_law5.body.drop 11) X (l5M l G E0 v n due (a0 v) x8 (a0 (.list [y,.bool a6])) aa aa) V KK:=by
 exact iteOr (neW rfl rfl (e ⟨_,rfl,U⟩))
theorem KO(W:L5 l G C Ks a m h)(N:NoH G v)(B:∀m V,KK (.ret (.bool a6)) m V) :
  wpSs DL (c_law5.body.drop 8) X (l5M l G (fD (spm m) Ks) v n (a0 .none) (a0 v) aa aa aa aa) (l5S s4 s5) KK:=by
 exact N.isF (K:=λa Aa=>_) ⟨a6,eqB a7,N.askF (K:=λa Aa=>_) (law5_cmp N.eqF (EO W λO U=>(N.isF (K:=λa Aa=>_) ⟨a6,eqB a7,_,rfl,B _ _⟩)))⟩
theorem law5_yes(W:L5 l G C Ks a m h)(d:FD 1 D)(N:Nums C D h')(Y:h' a=0)(U:Goo (Ae G) h')(y:Ks'.Nodup)(mem:∀k,k∈Ks'↔k∈Ae G)(hK:∀m V,KK (.ret (.bool a6)) m V) :
  wpSs DL (c_law5.body.drop 8) X (l5M l G (fD (spm m) Ks) (.dict D) n (a0 (.dict (fD (spm (mOf h')) Ks'))) (a0 (.dict D)) aa aa aa aa) (l5S s4 s5) KK:=by
 have hz:(Flr (Ae G) C a/\DOk D)/\(Nums C D h'/\h' a=0)/\Mt (Ae G) (mOf h')/\HT (Ae G) (mOf h') h':=⟨⟨W.F,d.ok⟩,⟨N,Y⟩,U.mt,U.ht⟩;have u:Lyd (Ae G) Ks' (mOf h') h':=⟨y,mem,U.mt,U.ht⟩;have ok:HOK (Ae G) C a D:=⟨h',N,Y,U⟩;have T:((Dd (Ae G) (mOf h')).map pcA).length<=big:=Aq (by
  have:=(U.mt.lay (BC W.F.up)).len W.F.few
  rw[aj];exact lin [(Dd (Ae G) (mOf h')).length] [] (.b V0 AD) [.b V0 K18] rfl this)
 have pl:=d.ok.pl;refine .dict _ (Ae G) C a D hz.1 λb z=>?_;obtain rfl:=z.mpr ok;refine⟨a6,eqB a6,.yes _ (Ae G) C a D h' _ hz λa4=>⟨a6,.dict D rfl rfl pl rfl,_,rfl,EO W λB O=>(.dict _ (Ae G) C a D hz.1 λb z=>?_)⟩⟩;obtain rfl:=z.mpr ok;exact⟨a6,eqB a6,_,rfl,rfl,_,rfl,Ae G,Ks',_,h',rfl,rfl,⟨W.F.few,W.F.up,u⟩,rfl,a6,(Ml.pcs _).eq (by decide),_,rfl,rfl,T,.yes _ (Ae G) C a D h' _ hz ⟨Ae G,Ks',_,h',rfl,rfl,⟨W.F.few,W.F.up,u⟩,a6,(Ml.pcs _).eq (by decide),hK _ _⟩⟩
theorem NoD.ne(o:NoD v)(x:bg)(i:Nat):v≠.loc x i:=by induction o using NoD.casesOn<;>exact nofun
theorem NoD.noh(o:NoD v)(u:Ml 5 v):NoH G v :=
 ⟨λU=>o.own2 (.no _ _ v o U),λU=>o.own2 (.no _ _ v o U),λU=>eqW.same u (by decide) o.ne U⟩
theorem NoD.own3{mu:Option Nat}{l:List AV}{E:List (Ah×AV)}{v:AV}{V:LS}{K:KV}{X:XL}(o:NoD v)(h:f [.list l,.dict E,v] [] (λr V'=>Fz mu r V K) (λc V'=>X c V)):G6 (specF f) mu [.list l,.dict E,v] V K X :=
 ownW_no (show AO [v]=[] from o.ix.1) (congrArg (AV.list l::AV.dict E::·) (o.ix.2 0)) h
theorem KP(W:L5 l G C Ks a m h)(T:Thg v)(U:∀m V,KK (.ret (.bool a6)) m V) :
  wpSs DL (c_law5.body.drop 6) X (l5M l G (fD (spm m) Ks) v n aa aa aa aa aa aa) (l5S s4 s5) KK:=by
 induction T using Thg.casesOn with
 |dict D d =>
  have ne:D≠[]:=λe=>by have:=d.len;rw[e]at this;cases this
  have y:D.length<=big/\D≠[]/\(D.map λp=>AX p.1).Nodup:=⟨Aq (by have:=d.ok.few;exact lin [D.length] [] (.b V0 AD) [.b V0 Et] rfl this),ne,d.hash⟩
  refine .dict G (Ae G) C a Ks m h D ⟨⟨W.F,W.L⟩,d.ok⟩ (λO=>.inl ⟨y,KO W ⟨λU=>?_,λU=>?_,λU=>⟨a6,.dict D rfl rfl d.ok.pl rfl,U⟩⟩ U⟩) λh' N e0 Go Ks' B mem=>.inl ⟨y,law5_yes W d N e0 Go B mem U⟩
  .refine .dict _ (Ae G) C a D ⟨W.F,d.ok⟩ λb z=>?_
   cases b with|true=>exact absurd (z.mp rfl) O|false=>exact U
  .exact .bad _ (Ae G) C a D ⟨⟨W.F,d.ok⟩,O⟩ U
 |no v o u =>
  show G6 fBk aa [.list (AA G),.dict (fD (spm m) Ks),v] _ _ BU;refine o.own3 (.no G (Ae G) C a Ks m h v ⟨⟨W.F,W.L⟩,o⟩ ?_);have Y:=KO (n:=n) (s4:=s4) (s5:=s5) (X:=X) W (o.noh u) U
  induction o using NoD.casesOn<;>exact Y
theorem law5_b{fs:List Sp}{g:Sp->Int}(W:L5 l G C Ks a m h)(c:∀n,Ch fs n)(U:∀m V,KK (.ret (.bool a6)) m V) :
  wpSs DL (c_law5.body.drop 4) X [a0 (.nums l),a0 (.list (AA G)),a0 (.dict (fD (spm m) Ks)),a0 (AJ (.list (AA G)) (Ae G)),a0 (.dict (iD g fs)),aa,aa,aa,aa,aa,aa,aa] (l5S s4 s5) KK :=
 ⟨l,5,rfl,W.hl,rfl,ifB (λZ=>.mk fs g _ (c _) λv T r e=>giveN e (KP W T U)) λZ=>KP W (.dict _ ((FD.iD (c 0).nd (c 0).bx (c 0).two).less (by decide))) U⟩
theorem law5_a(W:L5 l G C Ks a m h)(U:∀m V,KK (.ret (.bool a6)) m V) :
  wpSs DL (c_law5.body.drop 3) X [a0 (.nums l),a0 (.list (AA G)),a0 (.dict (fD (spm m) Ks)),a0 (AJ (.list (AA G)) (Ae G)),aa,aa,aa,aa,aa,aa,aa,aa] (l5S s4 s5) KK :=
 .mk (Ae G) C a Ks (a0 m) _ ⟨W.F,W.L.goes a⟩ λg fs y T Z=>giveN rfl (asgW (law5_b W (W.F.ch y T) U))
end
inductive QG(K:KR):List AV->LS->Prop
 |mk (l:List Int)(c0:l.length<=63)(c1:K ⟨[],.val (.bool a6)⟩ []):QG K ([.nums l]) ([])
noncomputable def fLaw5:FS:=specF λavs V K X=>QG K avs V
theorem law5_ok:Mh DL c_law5 .val 11 6 fLaw5:=by
 refine .specF λy V K X h=>QG.casesOn h λl Y B=>?_;have Y:l.length<=1000:=by exact lin [l.length] [] (.b V0 AD) [.b V0 K63] rfl Y
 refine⟨rfl,l,rfl,rfl,Y,λG w Ks m0 h0 f z=>(X1p f.flr λa F=>?_)⟩;have U:=A5 (a:=l.getD 3 0) (b:=61) (by decide)
 exact⟨l,2,rfl,Y,rfl,l,3,rfl,Y,rfl,Ae G,_,a,Ks,m0,h0,l.getD 2 0,(l.getD 3 0).fmod 61,rfl,rfl,⟨F,z,U.1,lin [] [(l.getD 3 0).fmod 61] (.f V0 AD) [.g V0 K61] rfl U.2⟩,λd O u=>⟨Aq (CL f.g),λT=>⟨T,G,w,rfl,rfl,f,law5_a ⟨Y,F,u⟩ λZ Z=>B⟩⟩⟩
end
section
noncomputable def D05:LawD:=⟨(29, "Floor")::(30, "is_whole")::(31, "is_spot")::(32, "order_of")::(33, "is_dark")::(34, "near_to")::(35, "spread_from")::(36, "are_rows")::(40, "laying_by")::(44, "hands_of")::(45, "sides_of")::(46, "first_corner")::(49, "are_numbers")::(50, "is_heights")::(51, "laying_from")::(72, "_law_cell_at")::(73, "_law_mixed")::(74, "_law_turned_rows")::(75, "_law_rows_by")::(85, "_law_pairs_flat")::(86, "_law_turn")::(87, "_law_drawn_pairs")::(88, "_law_floor_by")::(89, "_law_order")::(90, "_law_told")::(91, "_law_first")::(104, "_law_step")::(105, "_law_numbers")::(78, "_law_marks")::(79, "_law_alone")::(107, "_law_changed")::(108, "_law_back")::(101, "_law_asked")::[],
 [(13, "around"),(15, "has"),(16, "cells"),(18, "corners")],
 (a7, "is_whole",LU,["thing"]) ::
 (a7, "is_spot",c_spot,["thing"]) ::
 (a7, "order_of",E1,["spot"]) ::
 (a7, "is_dark",GG,["cell"]) ::
 (a7, "near_to",c_near,["spot"]) ::
 (a7, "spread_from",c_spread,["first", "some"]) ::
 (a7, "are_rows",GH,["rows"]) ::
 (a6, "__init__",c_Finit,["self", "rows"]) ::
 (a6, "around",GI,["self"]) ::
 (a6, "has",c_Fhas,["self", "place"]) ::
 (a6, "cells",IE,["self"]) ::
 (a6, "corners",E5,["self"]) ::
 (a7, "laying_by",Ej,["floor", "partners"]) ::
 (a7, "hands_of",E4,["corner", "way"]) ::
 (a7, "sides_of",EZ,["floor"]) ::
 (a7, "first_corner",Co,["floor"]) ::
 (a7, "are_numbers",C1,["floor", "numbers"]) ::
 (a7, "is_heights",Dw,["floor", "numbers"]) ::
 (a7, "laying_from",C0,["floor", "numbers"]) ::
 (a7, "_law_cell_at",E3,["_law_script", "_law_k"]) ::
 (a7, "_law_mixed",IA,["_law_number", "_law_k"]) ::
 (a7, "_law_turned_rows",Cm,["_law_rows"]) ::
 (a7, "_law_rows_by",E2,["_law_cell", "_law_more", "_law_even"]) ::
 (a7, "_law_pairs_flat",CZ,["_law_rows", "_law_upright"]) ::
 (a7, "_law_turn",c_lturn,["_law_pairs", "_law_corner"]) ::
 (a7, "_law_drawn_pairs",Cn,["_law_pairs", "_law_number", "_law_many"]) ::
 (a7, "_law_floor_by",c_lfloor_by,["_law_script"]) ::
 (a7, "_law_order",Iz,["_law_place"]) ::
 (a7, "_law_told",LV,["_law_pairs"]) ::
 (a7, "_law_first",IC,["_law_piece"]) ::
 (a7, "_law_step",c_lstep,["_law_pairs", "_law_corner", "_law_way"]) ::
 (a7, "_law_numbers",c_lnumbers,["_law_pairs"]) ::
 (a7, "_law_marks",IB,["_law_error"]) ::
 (a7, "_law_alone",ID,["_law_error", "_law_place"]) ::
 (a7, "_law_changed",c_lchanged,["_law_numbers_here", "_law_cell"]) ::
 (a7, "_law_back",c_lback,["_law_rows", "_law_pairs", "_law_numbers_here"]) ::
 (a7, "_law_asked",GF,["_law_floor", "_law_numbers_here"]) ::
 (a7, "law",c_law5,["_law_script"])::[],neL⟩
theorem D05_ok:D05.Ok:=⟨by decide +kernel,by decide +kernel,λZ h=>h,by decide +kernel,by decide +kernel⟩
theorem HZ(x:AV)(p:Ah)(h:kyF x=a0 p):(pureF keyF).pure [x]=a0 (sp p):=by
 refine X1pp (AC h) λk Y h=>?_;obtain rfl:=ae h;rw[spot?_out Y];rfl
theorem U_ok{K:Frag}{ex:List Nat}(h:ex.all (WK D05 []).U=a6):ex.all (WK D05 K).U=a6:=h
theorem LE{K:Frag}:exs.all (WK D05 K).U=a6:=U_ok (by decide +kernel)
theorem alone_at{S:Sta}(st:EA D05 S.K)(B:S.cv=cvK D05 S.K)(G:Good S (WK D05 S.K)):Mf S (WK D05 S.K) (k+2) ⟨a7,exs,[(79,LD 25 6)],[],[]⟩:=by
 have O:=D05_ok;have u:a7=a6->S.hx=aa:=λh=>by exact nF h
 have d:=Mf.of (k:=k) (q:=a7) (ex:=exs) G u LE (fn:=[]) (me:=[]) (ky:=[]) trivial trivial trivial;have U:=FnS.of (S:=S) O st B (i:=78) (ah (i:=32) rfl) (by decide +kernel) marks_ok d
 have z:=Mf.of (q:=a7) (ex:=exs) G u LE (fn:=[(78,Lz 25)]) (me:=[]) (ky:=[]) ⟨U,trivial⟩ trivial trivial;have y:=FnS.of (S:=S) O st B (i:=79) (ah (i:=33) rfl) (by decide +kernel) alone_ok z
 exact Mf.of G u LE ⟨y,trivial⟩ trivial trivial
section
variable {S:Sta}
theorem law_call(st:EA D05 S.K)(B:S.cv=cvK D05 S.K)(G:Good S (WK D05 S.K))(hq:S.hx=aa)(hl:l.length<=63) :
  Mi S 9 (.ref (adr (ownV S.K "law"))) [.nums l] (Av []) (OutF λr Z=>r=⟨[],.val (.bool a6)⟩) (Up BU):=by
 have O:=D05_ok;have y:a6=a6->S.hx=aa:=λZ=>hq;have u:∀(k:Nat)(ex:List Nat),ex.all (WK D05 S.K).U=a6->Mf S (WK D05 S.K) k ⟨a6,ex,[],[],[]⟩:=λk ex hx=>Mf.of G y hx trivial trivial trivial;have d:([]:List Nat).all (WK D05 S.K).U=a6:=rfl;have whole:=FnS.of (S:=S) O st B (i:=30) (ah (i:=0) rfl) (by decide +kernel) whole_ok (u 0 [] d)
 have spot:=FnS.of (S:=S) O st B (i:=31) (ah (i:=1) rfl) (by decide +kernel) spot_ok (Mf.of (k:=1) (ex:=[]) G y d ⟨whole,trivial⟩ trivial trivial)
 have ord:=FnS.of (S:=S) O st B (i:=32) (ah (i:=2) rfl) (by decide +kernel) EK (u 0 [] d)
 have ky1:=KyS.of (S:=S) O st B (i:=32) (ah (i:=2) rfl) (by decide +kernel) EK HZ (u 0 [] d)
 have dark:=FnS.of (S:=S) O st B (i:=33) (ah (i:=3) rfl) (by decide +kernel) dark_ok (u 0 [] d)
 have lord:=FnS.of (S:=S) O st B (i:=89) (ah (i:=27) rfl) (by decide +kernel) Gf (u 0 [] d)
 have ky2:=KyS.of (S:=S) O st B (i:=89) (ah (i:=27) rfl) (by decide +kernel) Gf HZ (u 0 [] d)
 have ky3:=KyS.of (S:=S) O st B (i:=91) (ah (i:=29) rfl) (by decide +kernel) first_ok kyP_pure (Mf.of (k:=1) (ex:=[]) G y d ⟨lord,trivial⟩ trivial trivial)
 have near:=FnS.of (S:=S) O st B (i:=34) (ah (i:=4) rfl) (by decide +kernel) near_ok (u 0 [] d)
 have spread:=FnS.of (S:=S) O st B (i:=35) (ah (i:=5) rfl) (by decide +kernel) JU (Mf.of (k:=1) (ex:=[]) G y d ⟨near,trivial⟩ trivial trivial)
 have arows:=FnS.of (S:=S) O st B (i:=36) (ah (i:=6) rfl) (by decide +kernel) arows_ok (u 0 [28] (U_ok (by decide +kernel)))
 have around:=MeS.of (S:=S) st (n:=13) (ah (i:=8) rfl) (by decide +kernel) Ma (u 0 [] d)
 have floor:=FnS.make (S:=S) O st B (ah (i:=7) rfl) (λZ=>rfl) rfl init_ok (Mf.of (k:=2) (ex:=[28,19,20,21]) G y (U_ok (by decide +kernel)) ⟨arows.up (by decide),spread,trivial⟩ ⟨around.up (by decide),trivial⟩ trivial)
 have has_:=MeS.of (S:=S) st (n:=15) (ah (i:=9) rfl) (by decide +kernel) has_ok (Mf.of (k:=2) (ex:=[]) G y d ⟨spot,trivial⟩ trivial trivial)
 have cells:=MeS.of (S:=S) st (n:=16) (ah (i:=10) rfl) (by decide +kernel) cells_ok (u 0 [] d)
 have corners:=MeS.of (S:=S) st (n:=18) (ah (i:=11) rfl) (by decide +kernel) Jr (Mf.of (k:=3) (ex:=[]) G y d trivial trivial ⟨ky1,trivial⟩)
 have lay:=FnS.of (S:=S) O st B (i:=40) (ah (i:=12) rfl) (by decide +kernel) lay_ok (Mf.of (k:=1) (ex:=[]) G y d ⟨ord,trivial⟩ ⟨cells,trivial⟩ trivial)
 have hands:=FnS.of (S:=S) O st B (i:=44) (ah (i:=13) rfl) (by decide +kernel) hands_ok (u 0 [] d)
 have sides:=FnS.of (S:=S) O st B (i:=45) (ah (i:=14) rfl) (by decide +kernel) sides_ok (Mf.of (k:=4) (ex:=[]) G y d ⟨hands.up (by decide),dark.up (by decide),trivial⟩ ⟨has_.up (by decide),corners,trivial⟩ trivial)
 have firstc:=FnS.of (S:=S) O st B (i:=46) (ah (i:=15) rfl) (by decide +kernel) Jo (Mf.of (k:=1) (ex:=[]) G y d trivial ⟨cells,trivial⟩ trivial)
 have are:=FnS.of (S:=S) O st B (i:=49) (ah (i:=16) rfl) (by decide +kernel) are_ok (Mf.of (k:=4) (ex:=[]) G y d ⟨spot.up (by decide),whole.up (by decide),trivial⟩ ⟨corners,trivial⟩ trivial)
 have ish:=FnS.of (S:=S) O st B (i:=50) (ah (i:=17) rfl) (by decide +kernel) isH_ok (Mf.of (k:=5) (ex:=[]) G y d ⟨are,firstc.up (by decide),sides,trivial⟩ ⟨has_.up (by decide),trivial⟩ trivial)
 have lf:=FnS.of (S:=S) O st B (i:=51) (ah (i:=18) rfl) (by decide +kernel) lf_ok (Mf.of (k:=6) (ex:=[25]) G y (U_ok (by decide +kernel)) ⟨ish,sides.up (by decide),lay.up (by decide),trivial⟩ trivial trivial)
 have cat:=FnS.of (S:=S) O st B (i:=72) (ah (i:=19) rfl) (by decide +kernel) at_ok (u 0 [] d)
 have Y:=FnS.of (S:=S) O st B (i:=73) (ah (i:=20) rfl) (by decide +kernel) mixed_ok (u 0 [] d)
 have turned:=FnS.of (S:=S) O st B (i:=74) (ah (i:=21) rfl) (by decide +kernel) JM (u 0 [] d)
 have rowsby:=FnS.of (S:=S) O st B (i:=75) (ah (i:=22) rfl) (by decide +kernel) J3 (Mf.of (k:=1) (ex:=[]) G y d ⟨Y,trivial⟩ trivial trivial)
 have pairs:=FnS.of (S:=S) O st B (i:=85) (ah (i:=23) rfl) (by decide +kernel) pairs_ok (u 0 [] d)
 have floorby:=FnS.of (S:=S) O st B (i:=88) (ah (i:=26) rfl) (by decide +kernel) Jn (Mf.of (k:=2) (ex:=[]) G y d ⟨cat.up (by decide),rowsby,pairs.up (by decide),turned.up (by decide),trivial⟩ trivial trivial)
 have turn:=FnS.of (S:=S) O st B (i:=86) (ah (i:=24) rfl) (by decide +kernel) turn_ok (u 0 [] d)
 have drawn:=FnS.of (S:=S) O st B (i:=87) (ah (i:=25) rfl) (by decide +kernel) drawn_ok (Mf.of (k:=1) (ex:=[]) G y d ⟨Y,turn,trivial⟩ trivial trivial)
 have told:=FnS.of (S:=S) O st B (i:=90) (ah (i:=28) rfl) (by decide +kernel) told_ok (Mf.of (k:=4) (ex:=[]) G y d ⟨lord.up (by decide),trivial⟩ trivial ⟨ky3,trivial⟩)
 have step:=FnS.of (S:=S) O st B (i:=104) (ah (i:=30) rfl) (by decide +kernel) step5_ok (u 0 [] d)
 have num:=FnS.of (S:=S) O st B (i:=105) (ah (i:=31) rfl) (by decide +kernel) num5_ok (Mf.of (k:=3) (ex:=[]) G y d ⟨step.up (by decide),trivial⟩ trivial ⟨ky2,trivial⟩)
 have chd:=FnS.of (S:=S) O st B (i:=107) (ah (i:=34) rfl) (by decide +kernel) ch_ok (Mf.of (k:=1) (ex:=[]) G y d ⟨Y,trivial⟩ trivial trivial)
 have bk:=FnS.of (S:=S) O st B (i:=108) (ah (i:=35) rfl) (by decide +kernel) bk_ok (Mf.of (k:=4) (ex:=[]) G y d ⟨num,step.up (by decide),trivial⟩ trivial ⟨ky2.up (by decide),trivial⟩)
 have asked:=FnS.try_ (S:=S) O st B (i:=101) (ah (i:=36) rfl) (by decide +kernel) L9 rfl (Mf.of (k:=7) (ex:=[25,18]) G y (U_ok (by decide +kernel)) ⟨lf,trivial⟩ trivial trivial) (λg' kk x hx=>alone_at (S:=S.grow g' kk x hx) st B G.grow) ⟨rfl,by decide,by decide⟩ (λZ=>rfl)
 have T:Mf S (WK D05 S.K) 8 DL:=Mf.of G y d ⟨floorby.up (by decide),drawn.up (by decide),cat.up (by decide),floor.up (by decide),num.up (by decide),chd.up (by decide),bk.up (by decide),ish.up (by decide),asked,lf.up (by decide),told.up (by decide),trivial⟩ trivial trivial
 exact D8 (V:=[]) T (Jj st (ah (i:=37) rfl)) trivial (law5_ok.spec [.nums l] [] (λr Z=>r=⟨[],.val (.bool a6)⟩) BU ⟨l,hl,rfl⟩) λok hs z=>Cz ok hs z
end
end
section
noncomputable def keep05:List Nat:=[0,2,3,4,5,6,7,8,9,10,11,13,14,15,16,17,18,19,20,21,23,25,26,27,28,29,30,32,33,34,35,36,37,38,39,40,41,42,43,44,45,46,47,48,49,50,51]
noncomputable abbrev p05:dN:=PySem.Challenge.pw_uf010026_05
noncomputable def q05:dN:=view PySem.Challenge.pw_uf010026_05 keep05
noncomputable def Xt05(s:ag):Bool:=xlAt q05 [] s && recOk (RowW.records (OpenRow.toRowW (OpenLaw.row PySem.Challenge.rw_uf010026_05))) s
theorem opens:opening p05=plainProg p05.main.scope.names:=by kernel_rfl
theorem fence:∀s,fenceModules? p05 s=a0 s:=λs=>by kernel_rfl
theorem boots:∀P,absHeap (Jw P) 11 {}=dc P:=λP=>by kernel_rfl
theorem sizes:∀P,((dc P).isNs bY,(dc P).objs.size,(dc P).nsMap bY "__annotations__")=(a6,11,a0 (.ref 6)):=λP=>by kernel_rfl
noncomputable def Ex(w:World)(os:OsState):Option SharedT:=goT (stepT (denote treeTable) p05 w) (stepOk 11 (a0 (.ref 6))) 9000 ⟨Jw w.params,11,{},iO [],gQ,iA,os⟩ (topStub p05)
theorem ranA:∀w:World,(λos=>(Ex w os).map λr=>(staticsOk (gw p05.main.body) (dc w.params) r.abs.heap && namesBound p05 r.abs.heap && gensDone r.abs && laidKept (dc w.params) r.abs.heap))=λZ=>a0 a6:=λw=>by
 unfold Ex;rw[b9,cb,ce,cz,ff]
 kernel_rfl
theorem ranB:∀w:World,(λos=>(Ex w os).map λr=>openSeen q05 [] (gw p05.main.body) Xt05 a6 r.abs)=λZ=>a0 (openGood q05 []):=λw=>by
 unfold Ex;rw[b9,cb,ce,cz,PySem.W.Fast.te4187177175401517315,ff]
 kernel_rfl
theorem ranC:∀w:World,(λos=>(Ex w os).map λr=>HY D05 (D5 r.abs.heap))=λZ=>a0 (aP 13 a6):=λw=>by
 unfold Ex;rw[b9,cb,ce,cz]
 kernel_rfl
theorem ranD:∀w:World,(λos=>(Ex w os).map λr=>(FF D05 (D5 r.abs.heap)).map (GK (D5 r.abs.heap)))=λZ=>a0 ((FF D05 []).map λx=>a0 (a0 (a0 (GZ x.c.body)))):=λw=>by
 unfold Ex;rw[b9,cb,ce,cz]
 kernel_rfl
theorem ranE:∀w:World,(λos=>(Ex w os).map λr=>(FF D05 (D5 r.abs.heap)).map (GL (D5 r.abs.heap)))=λZ=>a0 ((FF D05 []).map En):=λw=>by
 unfold Ex;rw[b9,cb,ce,cz]
 kernel_rfl
theorem DG{α β γ:Type}{o:Option α}{f:α->β}{g:α->γ}{a:β}{b:γ}(Y:o.map f=a0 a)(z:o.map g=a0 b):(o.map λr=>(f r,g r))=a0 (a,b):=by
 cases o with|none=>exact(Al rfl Y).elim|some x=>rw[<- ae Y,<- ae z];rfl
theorem ran:∀w:World,(λos=>(goT (stepT (denote treeTable) p05 w) (stepOk 11 (a0 (.ref 6))) 9000 ⟨Jw w.params,11,{},iO [],gQ,iA,os⟩ (topStub p05)).map λr=>seenT (dc w.params) p05 q05 Xt05 (Gj D05).obs r.abs)=λZ=>a0 (a6,openGood q05 [],(Gj D05).val w) :=
 λw=>funext λos=>DG (congrFun (ranA w) os) (DG (congrFun (ranB w) os) (DG (congrFun (ranC w) os) (DG (congrFun (ranD w) os) (congrFun (ranE w) os))))
noncomputable abbrev r05:OpenRow:=OpenLaw.row PySem.Challenge.rw_uf010026_05
theorem said05:PySem.Challenge.rw_uf010026_05.wellSaid=a6:=by rw[PySem.W.Fast.te9446332074065402090];kernel_rfl
theorem def05:(defOf q05 r05.name).isSome=a6:=by kernel_rfl
noncomputable def d05:DefRec×List (Str×Expr):=(defOf q05 r05.name).get def05
theorem fits:(chainsOk q05 && opensWell r05.prog && (frees r05.toRowW && r05.within.isEmpty))=a6:=by kernel_rfl
end
section
theorem left05:LeftO r05.prog q05 [] Xt05 (Gj D05).obs (Gj D05).val 9000:=left_of (p:=p05) opens rfl fence boots sizes ran
theorem head05(call:WalkO q05 [] (PySem.W.XL q05 []) (Gj D05).says r05.toRowW d05.1 d05.2 λf vs=>PySem.call f vs):PySem.Challenge.rw_uf010026_05.Holds :=
 holds_law said05 λz=>holds_open (q:=q05) (loose:=[]) (Xt:=Xt05) (XP:=PySem.W.XL q05 []) (YP:=(Gj D05).says) (N:=9000) left05 (Gj D05).of (Gj D05).keeps (λs e=>xl_of s (aO.mp e).1) PySem.W.XL.keeps (Option.some_get def05).symm (by kernel_rfl) (by kernel_rfl)
  (λs e=>recFacts_of (aO.mp e).2) (by kernel_rfl) z fits ⟨rfl,rfl,rfl,rfl,rfl,by decide +kernel⟩ (by w_witness2) call
theorem room_caller{S:Sta}(hq:S.hx=aa):Room S (λZ=>False) 9 callerA :=
 ⟨by rw[hq];rfl,⟨[],rfl,λe y=>by cases y⟩,by decide +kernel,by decide +kernel⟩
theorem inv_start{S:Sta}{s:ag}(T:S.g=s.heap)(z:S.gens=s.gens)(Y:S.drawn=s.drawn)(y:S.os=s.os):Inv S (λZ=>False) (λZ=>aa) s :=
 ⟨λb o e=>by rw[T]at e;exact e,z.symm,Y.symm,y.symm,λa d=>absurd rfl d,λa d=>absurd rfl d,λa h=>h.elim,λa o e=>by cases e⟩
theorem rep_script{cv:Nat->a8}{h:Heap}{D:bg->Prop}{a:bg}{vs:List a8}{ns:List Int}(O:h.IsList a vs.toArray)(B:IntsAre vs ns)(T:¬D a):Rep cv h D (.nums ns) (.ref a):=by
 obtain⟨o,e,c,n,f⟩:=O;refine .nums e c f T ?_;clear e c f T
 induction B with
 |nil=>exact⟨rfl,λi x h=>by simp at h⟩
 | @cons m t vs ns _ y =>
  refine⟨by simp[y.1],λi x h=>?_⟩
  cases i with|zero=>simp at h;subst h;exact⟨t,rfl⟩|succ i=>simp at h;simpa using y.2 i x h
end
end Mine.Internal
set_option tactic.hygienic true in
theorem PySem.Challenge.cw_uf010026_05_holds : PySem.Challenge.rw_uf010026_05.Holds :=
 Mine.Internal.head05 (by
 intro w Ak Ac mg mb G Y fa o pm cd doc dV kV ho hd' hcd hD hmg hg args vals as hpre hlay hrd hwl hlo;obtain⟨K,KX,st⟩:=Y;refine Ground.open G ?_;intro T B D TE TW;have hfa:fa=Mine.Internal.adr (Mine.Internal.ownV K "law"):=by
  have e:=mg_of KX T.g st.L.law;have e':mg "law"=a0 (.ref fa):=hmg;rw[e]at e';cases e';rfl
 subst hfa;clear hD hcd hd' ho hmg B D TE TW G
 wrow_args hpre hlay hrd hwl hlo
 rename_i ns _ _ _ _ _ _ _ a vs _ hL _ _ _ hI _ hlen _
 have hsm:∃o,Ac.heap.get? cG=a0 o:=by
  obtain⟨mm,⟨o,es,ep,e,_⟩,_⟩:=(T.seer (by decide +kernel)).mods
  exact⟨o,e⟩
 let S:Mine.Internal.Sta:=⟨PySem.Challenge.rw_uf010026_05.row.prog,w,Mine.Internal.cvK Mine.Internal.D05 K,Ac.heap,K,KX,Ac.gens,Ac.drawn,Ac.os,mg,mb,T.g,T.b,T.nolimit,hsm,aa,λx e=>by cases e⟩
 have C:=Mine.Internal.law_call (S:=S) (l:=ns) st rfl (Mine.Internal.goodD (S:=S) Mine.Internal.D05_ok st.L rfl (topRead_of T)) rfl (by omega)
 refine enter_call (dH (C (λZ=>False) callerA [.ref a] Ac (Mine.Internal.room_caller rfl) (Mine.Internal.inv_start rfl rfl rfl rfl) (.cons (Mine.Internal.rep_script hL hI λd=>d.elim (λd=>absurd rfl d) id) .nil)) λr s' z=>?_)
 cases r with
 |error e=>obtain⟨_,_,_,_,_,_,_,_,_,_,_,h⟩:=z;exact h.elim
 |ok fl =>
  cases fl with
  |ret v =>
   obtain⟨av,V',st,i,r,rt,τ,e,_,_,e'⟩:=z;subst e';subst e;obtain rfl:=r.inv;refine⟨.inl ⟨.bool a6,.bool a6,[],rfl,λcls=>?_,.bool a6,?_,λZ=>⟨by simp,by simp⟩⟩,.of_keep i.keep,i.os,.of_eq (i.gens.trans hg)⟩
   .first|exact raisesW_false (by wrow_none_raised) cls|rfl
   .first|wrow_post|rfl
  |_=>exact z.elim)
