import PyProof.Rows.All
import PyProof.Walks
import Wide.All
import OpenK.AllK
import KE.KTryMore
import Wide.FinOn
import PyProof.StationsW
import PyProof.RangeIter
import PyProof.InstFacts
import KE.KDictList
import KE.KSortAsk
import KE.KSortTup
import KE.KDictOf
import PyProof.AttrMissHeap
import PyProof.Rows.TupMore
import Open.FastRun
import Open.FastT9
import Open.Line
import PySem.Challenge.RW_uf010026_04
set_option Elab.async false
set_option maxRecDepth 1000000
set_option maxHeartbeats 8000000
set_option linter.all false
set_option tactic.hygienic false
set_option genSizeOf false
set_option genInjectivity false
set_option compiler.extract_closed false
set_option bootstrap.genMatcherCode false
set_option backward.match.sparseCases false
open Option renaming none->aa,map_eq_some_iff->aY,isSome_iff_exists->cf,map_some->cR,bind_eq_some_iff->eV
open PySem renaming wpAny_bind->ac,Shared->ae,wpAny_pure->ag,Expr->ai,DictEntry->aO,wpAny_mono->aV,tupleKind->bp,wpAny_holding->bA,wpAny_dictEntries->bG,intKind->bP,mainGlobals->bV,wpAny_newObj_type->bY,sysModules->cp,wpAny_truthy_bool->cr,Around->cz,NameKind->cC,wpAny_notOrdered_dict->cF,wpAny_call_entry->cJ,callEnvC->cN,entryOfKey->cX,wpAny_typeNameOfWhole_keyiter->c6,cellsFrom->c7,Stmt->dc,wpAny_standAt->dn,Program->dw,Builtin->dy,codeAny_mono->dF,wpAny_typeNameOf_keyiter->dI,wpAny_callSpecial?_slot->dJ,wpAny_isInstance->dK,constantsAlone->dL,sizeLine_eq->dR,PyData->dX,wpAny_richCompare_same_room->d8,wpAny_eqBool_int->ez,wpAny_assignInOrder_more->eH,swappedStores->eI,wpAny_dictEpoch->eK,pushCells_keeps->eM,wpAny_field->eU,starEach->e8,wpAny_pyIter_list->ff,wpAny_pyIter_enum->fi,wpAny_rule->fA,pushCells->fB,sizeLine->fL,codeAny_builtin->fW,wpAny_passesOwn->fX,importedModules->gc,isSubtype_dict_dict->gf,Fin->gq,rawInt->gt,firstArgMember->gu,IsRangeIter->gJ,wpAny_attempt->gQ,Operator->hV,PassesOwn->hW
open List renaming mem_of_getElem?->af,length_map->aj,length_append->ao,getD_eq_getElem?_getD->az,toArray->aA,mem_cons->aD,getElem?_eq_getElem->aE,size_toArray->aG,append_assoc->aI,mem_singleton->aJ,length_cons->aL,append_nil->aM,mem_append->aN,map_append->aP,mem_append_right->aT,getElem?_map->aW,mem_append_left->aX,mem_map->aZ,getElem?_eq_none->ba,map_map->bc,replicate->be,getElem?_append_right->bf,map_cons->bm,not_mem_nil->bn,range->bt,nodup_cons->bz,nodup_append->bF,length_replicate->bM,length->bR,length_singleton->bW,getElem?_append_left->b8,all_eq_true->cA,mem_map_of_mem->cD,pairwise_map->cM,map_congr_left->cQ,foldl_cons->cT,concat_eq_append->cV,lookup_cons->cY,length_nil->de,getElem?_eq_some_iff->dA,find?_cons->dC,mem_filter->dD,any_eq_true->dO,getElem?_replicate->dP,forIn_cons->d0,length_filter_le->d5,ext_getElem?->d7,mem_flatMap->eA,pairwise_cons->eR,getElem?_cons_zero->eX,nodup_nil->fm,contains_iff_mem->fq,eq_nil_or_concat->fu,length_take->fH,any_cons->fK,getElem?_mapIdx->fM,getElem?_of_mem->fR,getLast?_concat->fS,dropLast_concat->fT,nil_append->ga,replicate_succ->gg,flatMap_append->gh,mem_range->gx,mem_filterMap->gB,map_replicate->gF,getElem?_nil->gL,length_range->gN,foldl_append->gP,getElem_map->ic,getElem_mem->ig,take_length->il,take->io,foldl->iy,filter_nil->iB,map_id->iD
open Int renaming le_antisymm->ah,toNat_of_nonneg->au,self_le_toNat->aK,lt_or_gt_of_ne->aQ,sub_add_cancel->bj,add_zero->bB,add_sub_cancel->bI,toNat_natCast->bZ,eq_ofNat_of_zero_le->cu,zero_add->cZ,le_trans->dh,le_max_right->du,fmod_eq_emod_of_nonneg->dv,add_assoc->dH,natCast_nonneg->dT,ofNat_le->dU,lt_of_le_of_lt->eO,le_refl->eT,not_lt->fw,neg_one_mul->fV,not_le->gr,add_left_comm->gH,ofNat_lt->iv,sub_zero->iz
open Nat renaming sub_add_cancel->an,sub_le_iff_le_add'->aq,le_antisymm->aw,le_refl->ay,le_trans->aB,lt_or_gt_of_ne->bx,lt_or_ge->bJ,ne_of_lt->bK,eq_of_beq_eq_true->bU,le_of_ble_eq_true->cq,beq->cw,zero_le->cI,le_of_lt->cK,lt_succ_of_lt->cL,not_lt->cO,lt_of_le_of_lt->cW,le_add_right->dr,le_succ_of_le->dG,mul_le_mul->dQ,lt_of_succ_lt_succ->dY,not_lt_zero->d3,blt_eq->ef,lt_succ_self->ej,le_of_eq->ew,sub_le->eQ,ne_of_gt->e7,succ->e9,sub_self->fj,succ_ne_zero->fE,le_succ->fO,min_le_left->gd,succ_pos->gj,zero_add->gl,blt->gI,le_of_succ_le->gM,succ_ne_self->ib,succ_le_succ->ie,add_comm->iA
open Option.some renaming inj->ar,injEq->d6
open PySem.Heap renaming get?_push_of_some->ax,get?_push_size->aF,lt_size->bh,get?_update_self->bL,size_push->cG,ExtBut->di,SameBut->ir
open Bool renaming false_ne_true->aH,and_eq_true_iff->aU,and_eq_true->bE,false_eq_true->bT,eq_false_iff->cP,or_eq_true_iff->dg,or_eq_true->dZ,and_eq_false_iff->fp,not_true->gT
open PySem.Builtin.Range renaming rangeSize->aR,small->cg,rangeFitsLong->gm
open Decidable renaming not_and_iff_or_not->a9,byContradiction->bQ,em->ip
open PySem.Obj renaming mapSeq->bi,putName->eY,mapDictKeys->f8
open Array renaming getD_eq_getD_getElem?->bo,length_toList->ge,forIn_toList->gw,mk->iC
open PySem.Heap.SameBut renaming update->bq
open Prod renaming ext->bH,fst->fU,snd->gG
open PySem.NameKind renaming free->bO,cell->dq
open PySem.Str renaming ofString->bX
open PySem.Value.ref renaming inj->b4
open PySem.W.Fast renaming te10156331382660048174->b5,te11892475500146522536->b6,te14364793385576792824->b7,te6613529449190102663->cb,te5923862056798008813->eS
open PySem.F renaming slot_dict_keyiterator_next->b9,plainAttrs_list->c8,slot_list_getattribute->dN,args_dict_keyiterator_next_1->eB,entry_dict_keyiterator_next->eG,plainAttrs_dict->eZ,slot_dict_iter->fh,slot_dict_setdefault->f9,kt_typeCall_dict_1->gy,slot_list_insert->gU,slot_list_extend->gX,args_dict_init_2->gY
open PyProof.Rows renaming seqObj->ca,mirror_perm->fP,get?_update_seq->f6,slot_tuple_getitem->gA,listUpdate_at->gS
open PySem.PyData renaming depthAll->ce,canLayAll0->ct,eqv->eN,canLay0->fo,depth->iw
open PySem.Builtin.Dict renaming samePairs->cB,dictSlotArgs->dB,updateFrom->dM,showsAll->d4,entriesForEmpty->f7,selfAndRest->hU,mergeDict->iu
open PySem.Value renaming ref->cE,none->cH,int->ik
open Classical renaming byContradiction->cU
open PySem.Builtin.Tuple renaming tupleExact->c5
open PySem.W renaming boot_heap->c9,kas_asc->dz,cellsFrom_some->fe,kas_count->fF,kas_sort->fQ,emptyDict->gp,boot_drawn->gE,findIn->gR,kas_place->ij,boot_toks->im
open PySem.SeqAt renaming shaped->dE
open PySem.Txt renaming mul->dW,contains->eu
open Min renaming min->d9
open Std.Legacy.Range renaming forIn_eq_forIn_range'->eh
open Prod.mk renaming injEq->eE,inj->gO
open List.cons renaming inj->eJ
open Nat.succ renaming inj->e6
open PySem.IntMulOk renaming of_left->fG
open Ne renaming symm->fJ
open PySem.Builtin.Dict_items renaming ownsTuple->fY
open ForInStep renaming yield->fZ
open PySem.Calls renaming Name_function_global->gv
open PySem.Builtin.Slice renaming sliceApplied->gz
open PySem.Builtin.List renaming listTooLong->gV
open False renaming elim->iq
open PySem PyProof.Rows PySem.W
namespace Mine.Internal
section
section
universe i j k l m n o
section
variable {p q r s t:Prop}{E:Sort o}{f g:E}{G:E->Prop}{H:Prop}
@[elab_as_elim] theorem X0ll{E0:Sort o}(w0:E0){f0:E0}{E1:Sort o}(w1:E1){f1:E1}{G:E0->E1->Prop}(h:w0=f0/\w1=f1)(k:G f0 f1):G w0 w1:=by obtain ⟨rfl,rfl⟩:=h;exact k 
@[elab_as_elim] theorem X0lll{E0:Sort o}(w0:E0){f0:E0}{E1:Sort o}(w1:E1){f1:E1}{E2:Sort o}(w2:E2){f2:E2}{G:E0->E1->E2->Prop}(h:w0=f0/\w1=f1/\w2=f2)(k:G f0 f1 f2):G w0 w1 w2:=by obtain ⟨rfl,rfl,rfl⟩:=h;exact k 
@[elab_as_elim] theorem X0llp{E0:Sort o}(w0:E0){f0:E0}{E1:Sort o}(w1:E1){f1:E1}{G:E0->E1->Prop}(h:w0=f0/\w1=f1/\r)(k:r->G f0 f1):G w0 w1:=by obtain ⟨rfl,rfl,h2⟩:=h;exact k h2
@[elab_as_elim] theorem X0lp(W:E)(h:W=f/\q)(k:q->G f):G W:=by obtain ⟨rfl,h1⟩:=h;exact k h1
theorem X0ppppp(h:p/\q/\r/\s/\t)(k:p->q->r->s->t->H):H:=by obtain ⟨h0,h1,h2,h3,h4⟩:=h;exact k h0 h1 h2 h3 h4
end
section
variable {I:Sort i}
variable {p q r s t a b:I->Prop}{E:Sort o}{f g:I->E}{G:E->Prop}{H:Prop}
@[elab_as_elim] theorem X1l(W:E)(h:∃x,W=f x)(k:∀x,G (f x)):G W:=by obtain ⟨x,rfl⟩:=h;exact k x
@[elab_as_elim] theorem X1lp(W:E)(h:∃x,W=f x/\q x)(k:∀x,q x->G (f x)):G W:=by obtain ⟨x,rfl,h1⟩:=h;exact k x h1
@[elab_as_elim] theorem X1lpppppp(W:E)(h:∃x,W=f x/\q x/\r x/\s x/\t x/\a x/\b x)(k:∀x,q x->r x->s x->t x->a x->b x->G (f x)):G W:=by obtain ⟨x,rfl,h1,h2,h3,h4,h5,h6⟩:=h;exact k x h1 h2 h3 h4 h5 h6
theorem X1p(h:∃x,p x)(k:∀x,p x->H):H:=by obtain ⟨x,h0⟩:=h;exact k x h0
@[elab_as_elim] theorem X1pl(W:E)(h:∃x,p x/\W=f x)(k:∀x,p x->G (f x)):G W:=by obtain ⟨x,h0,rfl⟩:=h;exact k x h0
theorem X1pp(h:∃x,p x/\q x)(k:∀x,p x->q x->H):H:=by obtain ⟨x,h0,h1⟩:=h;exact k x h0 h1
theorem X1ppp(h:∃x,p x/\q x/\r x)(k:∀x,p x->q x->r x->H):H:=by obtain ⟨x,h0,h1,h2⟩:=h;exact k x h0 h1 h2
theorem X1pppp(h:∃x,p x/\q x/\r x/\s x)(k:∀x,p x->q x->r x->s x->H):H:=by obtain ⟨x,h0,h1,h2,h3⟩:=h;exact k x h0 h1 h2 h3
theorem X1ppppp(h:∃x,p x/\q x/\r x/\s x/\t x)(k:∀x,p x->q x->r x->s x->t x->H):H:=by obtain ⟨x,h0,h1,h2,h3,h4⟩:=h;exact k x h0 h1 h2 h3 h4
theorem X1pppppp(h:∃x,p x/\q x/\r x/\s x/\t x/\a x)(k:∀x,p x->q x->r x->s x->t x->a x->H):H:=by obtain ⟨x,h0,h1,h2,h3,h4,h5⟩:=h;exact k x h0 h1 h2 h3 h4 h5
theorem X1ppppppp(h:∃x,p x/\q x/\r x/\s x/\t x/\a x/\b x)(k:∀x,p x->q x->r x->s x->t x->a x->b x->H):H:=by obtain ⟨x,h0,h1,h2,h3,h4,h5,h6⟩:=h;exact k x h0 h1 h2 h3 h4 h5 h6
@[elab_as_elim] theorem X1pr(W:E)(h:∃x,p x/\f x=W)(k:∀x,p x->G (f x)):G W:=by obtain ⟨x,h0,rfl⟩:=h;exact k x h0
end
section
variable {I:Sort i}{J:Sort j}
variable {p q r s t:I->J->Prop}{E:Sort o}{f g:I->J->E}{G:E->Prop}{H:Prop}
@[elab_as_elim] theorem X2l(W:E)(h:∃x y,W=f x y)(k:∀x y,G (f x y)):G W:=by obtain ⟨x,y,rfl⟩:=h;exact k x y
@[elab_as_elim] theorem X2llp{E0:Sort o}(w0:E0){f0:I->J->E0}{E1:Sort o}(w1:E1){f1:I->J->E1}{G:E0->E1->Prop}(h:∃x y,w0=f0 x y/\w1=f1 x y/\r x y)(k:∀x y,r x y->G (f0 x y) (f1 x y)):G w0 w1:=by obtain ⟨x,y,rfl,rfl,h2⟩:=h;exact k x y h2
@[elab_as_elim] theorem X2lp(W:E)(h:∃x y,W=f x y/\q x y)(k:∀x y,q x y->G (f x y)):G W:=by obtain ⟨x,y,rfl,h1⟩:=h;exact k x y h1
@[elab_as_elim] theorem X2lpp(W:E)(h:∃x y,W=f x y/\q x y/\r x y)(k:∀x y,q x y->r x y->G (f x y)):G W:=by obtain ⟨x,y,rfl,h1,h2⟩:=h;exact k x y h1 h2
@[elab_as_elim] theorem X2lppp(W:E)(h:∃x y,W=f x y/\q x y/\r x y/\s x y)(k:∀x y,q x y->r x y->s x y->G (f x y)):G W:=by obtain ⟨x,y,rfl,h1,h2,h3⟩:=h;exact k x y h1 h2 h3
theorem X2p(h:∃x y,p x y)(k:∀x y,p x y->H):H:=by obtain ⟨x,y,h0⟩:=h;exact k x y h0
theorem X2pp(h:∃x y,p x y/\q x y)(k:∀x y,p x y->q x y->H):H:=by obtain ⟨x,y,h0,h1⟩:=h;exact k x y h0 h1
theorem X2ppp(h:∃x y,p x y/\q x y/\r x y)(k:∀x y,p x y->q x y->r x y->H):H:=by obtain ⟨x,y,h0,h1,h2⟩:=h;exact k x y h0 h1 h2
theorem X2pppp(h:∃x y,p x y/\q x y/\r x y/\s x y)(k:∀x y,p x y->q x y->r x y->s x y->H):H:=by obtain ⟨x,y,h0,h1,h2,h3⟩:=h;exact k x y h0 h1 h2 h3
theorem X2ppppp(h:∃x y,p x y/\q x y/\r x y/\s x y/\t x y)(k:∀x y,p x y->q x y->r x y->s x y->t x y->H):H:=by obtain ⟨x,y,h0,h1,h2,h3,h4⟩:=h;exact k x y h0 h1 h2 h3 h4
end
section
variable {I:Sort i}{J:Sort j}{K:Sort k}
variable {p q r s t a:I->J->K->Prop}{E:Sort o}{f g:I->J->K->E}{G:E->Prop}{H:Prop}
@[elab_as_elim] theorem X3l(W:E)(h:∃x y z,W=f x y z)(k:∀x y z,G (f x y z)):G W:=by obtain ⟨x,y,z,rfl⟩:=h;exact k x y z
@[elab_as_elim] theorem X3lp(W:E)(h:∃x y z,W=f x y z/\q x y z)(k:∀x y z,q x y z->G (f x y z)):G W:=by obtain ⟨x,y,z,rfl,h1⟩:=h;exact k x y z h1
@[elab_as_elim] theorem X3lpp(W:E)(h:∃x y z,W=f x y z/\q x y z/\r x y z)(k:∀x y z,q x y z->r x y z->G (f x y z)):G W:=by obtain ⟨x,y,z,rfl,h1,h2⟩:=h;exact k x y z h1 h2
@[elab_as_elim] theorem X3lppp(W:E)(h:∃x y z,W=f x y z/\q x y z/\r x y z/\s x y z)(k:∀x y z,q x y z->r x y z->s x y z->G (f x y z)):G W:=by obtain ⟨x,y,z,rfl,h1,h2,h3⟩:=h;exact k x y z h1 h2 h3
@[elab_as_elim] theorem X3lpppp(W:E)(h:∃x y z,W=f x y z/\q x y z/\r x y z/\s x y z/\t x y z)(k:∀x y z,q x y z->r x y z->s x y z->t x y z->G (f x y z)):G W:=by obtain ⟨x,y,z,rfl,h1,h2,h3,h4⟩:=h;exact k x y z h1 h2 h3 h4
@[elab_as_elim] theorem X3lppppp(W:E)(h:∃x y z,W=f x y z/\q x y z/\r x y z/\s x y z/\t x y z/\a x y z)(k:∀x y z,q x y z->r x y z->s x y z->t x y z->a x y z->G (f x y z)):G W:=by obtain ⟨x,y,z,rfl,h1,h2,h3,h4,h5⟩:=h;exact k x y z h1 h2 h3 h4 h5
theorem X3pp(h:∃x y z,p x y z/\q x y z)(k:∀x y z,p x y z->q x y z->H):H:=by obtain ⟨x,y,z,h0,h1⟩:=h;exact k x y z h0 h1
theorem X3ppp(h:∃x y z,p x y z/\q x y z/\r x y z)(k:∀x y z,p x y z->q x y z->r x y z->H):H:=by obtain ⟨x,y,z,h0,h1,h2⟩:=h;exact k x y z h0 h1 h2
theorem X3pppp(h:∃x y z,p x y z/\q x y z/\r x y z/\s x y z)(k:∀x y z,p x y z->q x y z->r x y z->s x y z->H):H:=by obtain ⟨x,y,z,h0,h1,h2,h3⟩:=h;exact k x y z h0 h1 h2 h3
theorem X3ppppp(h:∃x y z,p x y z/\q x y z/\r x y z/\s x y z/\t x y z)(k:∀x y z,p x y z->q x y z->r x y z->s x y z->t x y z->H):H:=by obtain ⟨x,y,z,h0,h1,h2,h3,h4⟩:=h;exact k x y z h0 h1 h2 h3 h4
theorem X3pppppp(h:∃x y z,p x y z/\q x y z/\r x y z/\s x y z/\t x y z/\a x y z)(k:∀x y z,p x y z->q x y z->r x y z->s x y z->t x y z->a x y z->H):H:=by obtain ⟨x,y,z,h0,h1,h2,h3,h4,h5⟩:=h;exact k x y z h0 h1 h2 h3 h4 h5
end
section
variable {I:Sort i}{J:Sort j}{K:Sort k}{L:Sort l}
variable {p q r s t a:I->J->K->L->Prop}{E:Sort o}{f g:I->J->K->L->E}{G:E->Prop}{H:Prop}
@[elab_as_elim] theorem X4l(W:E)(h:∃x y z u,W=f x y z u)(k:∀x y z u,G (f x y z u)):G W:=by obtain ⟨x,y,z,u,rfl⟩:=h;exact k x y z u
@[elab_as_elim] theorem X4lpp(W:E)(h:∃x y z u,W=f x y z u/\q x y z u/\r x y z u)(k:∀x y z u,q x y z u->r x y z u->G (f x y z u)):G W:=by obtain ⟨x,y,z,u,rfl,h1,h2⟩:=h;exact k x y z u h1 h2
@[elab_as_elim] theorem X4lppp(W:E)(h:∃x y z u,W=f x y z u/\q x y z u/\r x y z u/\s x y z u)(k:∀x y z u,q x y z u->r x y z u->s x y z u->G (f x y z u)):G W:=by obtain ⟨x,y,z,u,rfl,h1,h2,h3⟩:=h;exact k x y z u h1 h2 h3
@[elab_as_elim] theorem X4lpppp(W:E)(h:∃x y z u,W=f x y z u/\q x y z u/\r x y z u/\s x y z u/\t x y z u)(k:∀x y z u,q x y z u->r x y z u->s x y z u->t x y z u->G (f x y z u)):G W:=by obtain ⟨x,y,z,u,rfl,h1,h2,h3,h4⟩:=h;exact k x y z u h1 h2 h3 h4
@[elab_as_elim] theorem X4lppppp(W:E)(h:∃x y z u,W=f x y z u/\q x y z u/\r x y z u/\s x y z u/\t x y z u/\a x y z u)(k:∀x y z u,q x y z u->r x y z u->s x y z u->t x y z u->a x y z u->G (f x y z u)):G W:=by obtain ⟨x,y,z,u,rfl,h1,h2,h3,h4,h5⟩:=h;exact k x y z u h1 h2 h3 h4 h5
theorem X4p(h:∃x y z u,p x y z u)(k:∀x y z u,p x y z u->H):H:=by obtain ⟨x,y,z,u,h0⟩:=h;exact k x y z u h0
theorem X4pp(h:∃x y z u,p x y z u/\q x y z u)(k:∀x y z u,p x y z u->q x y z u->H):H:=by obtain ⟨x,y,z,u,h0,h1⟩:=h;exact k x y z u h0 h1
theorem X4ppp(h:∃x y z u,p x y z u/\q x y z u/\r x y z u)(k:∀x y z u,p x y z u->q x y z u->r x y z u->H):H:=by obtain ⟨x,y,z,u,h0,h1,h2⟩:=h;exact k x y z u h0 h1 h2
end
section
variable {I:Sort i}{J:Sort j}{K:Sort k}{L:Sort l}{M:Sort m}
variable {p q r s t:I->J->K->L->M->Prop}{E:Sort o}{f g:I->J->K->L->M->E}{G:E->Prop}{H:Prop}
@[elab_as_elim] theorem X5lp(W:E)(h:∃x y z u v,W=f x y z u v/\q x y z u v)(k:∀x y z u v,q x y z u v->G (f x y z u v)):G W:=by obtain ⟨x,y,z,u,v,rfl,h1⟩:=h;exact k x y z u v h1
@[elab_as_elim] theorem X5lppp(W:E)(h:∃x y z u v,W=f x y z u v/\q x y z u v/\r x y z u v/\s x y z u v)(k:∀x y z u v,q x y z u v->r x y z u v->s x y z u v->G (f x y z u v)):G W:=by obtain ⟨x,y,z,u,v,rfl,h1,h2,h3⟩:=h;exact k x y z u v h1 h2 h3
@[elab_as_elim] theorem X5lpppp(W:E)(h:∃x y z u v,W=f x y z u v/\q x y z u v/\r x y z u v/\s x y z u v/\t x y z u v)(k:∀x y z u v,q x y z u v->r x y z u v->s x y z u v->t x y z u v->G (f x y z u v)):G W:=by obtain ⟨x,y,z,u,v,rfl,h1,h2,h3,h4⟩:=h;exact k x y z u v h1 h2 h3 h4
end
section
variable {I:Sort i}{J:Sort j}{K:Sort k}{L:Sort l}{M:Sort m}{N:Sort n}
variable {p q r s t:I->J->K->L->M->N->Prop}{E:Sort o}{f g:I->J->K->L->M->N->E}{G:E->Prop}{H:Prop}
@[elab_as_elim] theorem X6lpppp(W:E)(h:∃x y z u v w,W=f x y z u v w/\q x y z u v w/\r x y z u v w/\s x y z u v w/\t x y z u v w)(k:∀x y z u v w,q x y z u v w->r x y z u v w->s x y z u v w->t x y z u v w->G (f x y z u v w)):G W:=by obtain ⟨x,y,z,u,v,w,rfl,h1,h2,h3,h4⟩:=h;exact k x y z u v w h1 h2 h3 h4
theorem X6p(h:∃x y z u v w,p x y z u v w)(k:∀x y z u v w,p x y z u v w->H):H:=by obtain ⟨x,y,z,u,v,w,h0⟩:=h;exact k x y z u v w h0
theorem X6ppppp(h:∃x y z u v w,p x y z u v w/\q x y z u v w/\r x y z u v w/\s x y z u v w/\t x y z u v w)(k:∀x y z u v w,p x y z u v w->q x y z u v w->r x y z u v w->s x y z u v w->t x y z u v w->H):H:=by obtain ⟨x,y,z,u,v,w,h0,h1,h2,h3,h4⟩:=h;exact k x y z u v w h0 h1 h2 h3 h4
end
end
theorem Ao{p0:Prop}{p1:Prop}{G:Prop}(h:p0/\p1)(k:p0->p1->G):G:=by
 obtain ⟨h0,h1⟩:=h;exact k h0 h1
theorem Bp{p0:Prop}{p1:Prop}{p2:Prop}{G:Prop}(h:p0/\p1/\p2)(k:p0->p1->p2->G):G:=by
 obtain ⟨h0,h1,h2⟩:=h;exact k h0 h1 h2
theorem B0{p0:Prop}{p1:Prop}{p2:Prop}{p3:Prop}{G:Prop}(h:p0/\p1/\p2/\p3)(k:p0->p1->p2->p3->G):G:=by
 obtain ⟨h0,h1,h2,h3⟩:=h;exact k h0 h1 h2 h3
theorem Ge{p0:Prop}{p1:Prop}{p2:Prop}{p3:Prop}{p4:Prop}{p5:Prop}{p6:Prop}{G:Prop}(h:p0/\p1/\p2/\p3/\p4/\p5/\p6)(k:p0->p1->p2->p3->p4->p5->p6->G):G:=by
 obtain ⟨h0,h1,h2,h3,h4,h5,h6⟩:=h;exact k h0 h1 h2 h3 h4 h5 h6
set_option genCtorIdx false in
inductive La where
 | v (i:Nat)
 | k (z:Int)
 | c (a:La)
 | A (a b:La)
 | S (a b:La)
 | N (a:La)
 | M (z:Int) (a:La)
 | U (a:La) (z:Int)
noncomputable abbrev La.ctorIdx(x:La):Nat:=@La.casesOn (fun _=>Nat) x (fun _=>0) (fun _=>1) (fun _=>2) (fun _ _=>3) (fun _ _=>4) (fun _=>5) (fun _ _=>6) (fun _ _=>7)
noncomputable def gt0{α:Type}(d:α):List α->Nat->α
 | [],_=>d
 | x::_,0=>x
 | _::r,n+1=>gt0 d r n
noncomputable def La.n(ns:List Nat):La->Nat
 | .v i=>gt0 0 ns i
 | .k z=>z.toNat
 | .A a b=>a.n ns+b.n ns
 | .M z a=>z.toNat * a.n ns
 | .U a z=>a.n ns * z.toNat
 | _=>0
noncomputable def La.i(ns:List Nat)(is:List Int):La->Int
 | .v i=>gt0 0 is i
 | .k z=>z
 | .c a=>(a.n ns:Nat)
 | .A a b=>a.i ns is+b.i ns is
 | .S a b=>a.i ns is - b.i ns is
 | .N a=>-(a.i ns is)
 | .M z a=>z * a.i ns is
 | .U a z=>a.i ns is * z
structure Lp where
 k:Int
 n:List Int
 i:List Int
noncomputable def CX:List Int->List Int->Int
 | c::r,x::s=>c * x+CX r s
 | _,_=>0
noncomputable def addL:List Int->List Int->List Int
 | [],b=>b
 | x::r,[]=>x::r
 | x::r,y::s=>(x+y)::addL r s
noncomputable def mulL(z:Int):List Int->List Int
 | []=>[]
 | x::r=>z * x::mulL z r
noncomputable def one:Nat->List Int
 | 0=>[1]
 | n+1=>0::one n
noncomputable def Ja:List Nat->List Int
 | []=>[]
 | x::r=>(x:Int)::Ja r
noncomputable def Lp.ev(ns:List Nat)(is:List Int)(p:Lp):Int:=p.k+(CX p.n (Ja ns)+CX p.i is)
noncomputable def Lp.add(p q:Lp):Lp:=⟨p.k+q.k,addL p.n q.n,addL p.i q.i⟩
noncomputable def Lp.mul(z:Int)(p:Lp):Lp:=⟨z * p.k,mulL z p.n,mulL z p.i⟩
theorem G3:∀a b l,CX (addL a b) l=CX a l+CX b l
 | [],b,l=>(cZ _).symm
 | x::r,[],l=>(bB _).symm
 | x::r,y::s,[]=>rfl
 | x::r,y::s,u::l=>by
  show (x+y) * u+CX (addL r s) l=(x * u+CX r l)+(y * u+CX s l);rw [G3 r s l,Int.add_mul,dH,dH,gH (y * u)]
theorem G2(z:Int):∀a l,CX (mulL z a) l=z * CX a l
 | [],l=>(Int.mul_zero _).symm
 | x::r,[]=>(Int.mul_zero _).symm
 | x::r,u::l=>by
  show z * x * u+CX (mulL z r) l=z * (x * u+CX r l);rw [G2 z r l,Int.mul_add,Int.mul_assoc]
theorem G1:∀i l,CX (one i) l=gt0 0 l i
 | 0,[]=>rfl
 | _+1,[]=>rfl
 | 0,u::l=>by show 1 * u+0=u;rw [Int.one_mul,bB]
 | i+1,u::l=>by show 0 * u+CX (one i) l=gt0 0 l i;rw [G1 i l,Int.zero_mul,cZ]
theorem KH:∀l i,gt0 0 (Ja l) i=((gt0 0 l i:Nat):Int)
 | [],_=>rfl
 | _::_,0=>rfl
 | _::r,i+1=>KH r i
theorem Lp.ev_add(ns is)(p q:Lp):Lp.ev ns is (p.add q)=p.ev ns is+q.ev ns is:=by
 show (p.k+q.k)+(CX (addL p.n q.n) _+CX (addL p.i q.i) _)=(p.k+(_+_))+(q.k+(_+_));rw [G3,G3];generalize CX p.n (Ja ns)=a;generalize CX p.i is=b;generalize CX q.n (Ja ns)=c;generalize CX q.i is=d;rw [dH,dH p.k,gH (a+b),dH a c,gH c b,dH a b]
theorem Lp.ev_mul(ns is z)(p:Lp):Lp.ev ns is (Lp.mul z p)=z * p.ev ns is:=by
 show z * p.k+(CX (mulL z p.n) _+CX (mulL z p.i) _)=z * (p.k+(_+_));rw [G2,G2,Int.mul_add,Int.mul_add]
noncomputable def La.pn:La->Lp
 | .v i=>⟨0,one i,[]⟩
 | .k z=>⟨z.toNat,[],[]⟩
 | .A a b=>a.pn.add b.pn
 | .M z a=>Lp.mul z.toNat a.pn
 | .U a z=>Lp.mul z.toNat a.pn
 | _=>⟨0,[],[]⟩
noncomputable def La.p:La->Lp
 | .v i=>⟨0,[],one i⟩
 | .k z=>⟨z,[],[]⟩
 | .c a=>a.pn
 | .A a b=>a.p.add b.p
 | .S a b=>a.p.add (Lp.mul (-1) b.p)
 | .N a=>Lp.mul (-1) a.p
 | .M z a=>Lp.mul z a.p
 | .U a z=>Lp.mul z a.p
theorem ev_k(ns is z):Lp.ev ns is ⟨z,[],[]⟩=z:=bB _
theorem La.pn_ok(ns is):∀t:La,((t.n ns:Nat):Int)=Lp.ev ns is t.pn
 | .v i=>by show _=0+(CX (one i) _+0);rw [G1,KH,cZ,bB];rfl
 | .k z=>(ev_k _ _ _).symm
 | .A a b=>by show ((a.n ns+b.n ns:Nat):Int)=Lp.ev ns is (a.pn.add b.pn);rw [Lp.ev_add,<- pn_ok ns is a,<- pn_ok ns is b];rfl
 | .M z a=>by show ((z.toNat * a.n ns:Nat):Int)=Lp.ev ns is (Lp.mul z.toNat a.pn);rw [Lp.ev_mul,<- pn_ok ns is a];rfl
 | .U a z=>by show ((a.n ns * z.toNat:Nat):Int)=Lp.ev ns is (Lp.mul z.toNat a.pn);rw [Lp.ev_mul,<- pn_ok ns is a,Nat.mul_comm];rfl
 | .c _ | .S _ _ | .N _=>rfl
theorem La.p_ok(ns is):∀t:La,t.i ns is=Lp.ev ns is t.p
 | .v i=>by show _=0+(0+CX (one i) _);rw [G1,cZ,cZ];rfl
 | .k z=>(ev_k _ _ _).symm
 | .c a=>a.pn_ok ns is
 | .A a b=>by show a.i ns is+b.i ns is=Lp.ev ns is (a.p.add b.p);rw [Lp.ev_add,<- p_ok ns is a,<- p_ok ns is b]
 | .S a b=>by show a.i ns is - b.i ns is=Lp.ev ns is (a.p.add (Lp.mul (-1) b.p));rw [Lp.ev_add,Lp.ev_mul,<- p_ok ns is a,<- p_ok ns is b,fV];rfl
 | .N a=>by show -(a.i ns is)=Lp.ev ns is (Lp.mul (-1) a.p);rw [Lp.ev_mul,<- p_ok ns is a,fV]
 | .M z a=>by show z * a.i ns is=Lp.ev ns is (Lp.mul z a.p);rw [Lp.ev_mul,<- p_ok ns is a]
 | .U a z=>by show a.i ns is * z=Lp.ev ns is (Lp.mul z a.p);rw [Lp.ev_mul,<- p_ok ns is a,Int.mul_comm]
set_option genCtorIdx false in
inductive Lc where
 | B (k:Nat) (a b:La)
 | C (k:Nat) (a b:La)
 | D (k:Int) (a b:La)
 | F (k:Nat) (a b:La)
 | G (k:Nat) (a b:La)
 | H (k:Int) (a b:La)
 | I (k:Nat) (a b:La)
 | J (k:Nat) (a b:La)
 | K (k:Nat) (a b:La)
 | L (k:Nat) (a b:La)
 | no
noncomputable abbrev Lc.ctorIdx(x:Lc):Nat:=@Lc.casesOn (fun _=>Nat) x (fun _ _ _=>0) (fun _ _ _=>1) (fun _ _ _=>2) (fun _ _ _=>3) (fun _ _ _=>4) (fun _ _ _=>5) (fun _ _ _=>6) (fun _ _ _=>7) (fun _ _ _=>8) (fun _ _ _=>9) 10
noncomputable def Lc.den(ns:List Nat)(is:List Int):Lc->Prop
 | .B _ a b=>a.n ns<=b.n ns
 | .C _ a b=>a.n ns<b.n ns
 | .D _ a b=>a.n ns=b.n ns
 | .F _ a b=>a.i ns is<=b.i ns is
 | .G _ a b=>a.i ns is<b.i ns is
 | .H _ a b=>a.i ns is=b.i ns is
 | .I _ a b=>¬(a.n ns<=b.n ns)
 | .J _ a b=>¬(a.n ns<b.n ns)
 | .K _ a b=>¬(a.i ns is<=b.i ns is)
 | .L _ a b=>¬(a.i ns is<b.i ns is)
 | .no=>False
noncomputable def Lp.df(k d:Int)(a b:Lp):Lp:=Lp.mul k (b.add (Lp.mul (-1) (a.add ⟨d,[],[]⟩)))
noncomputable def Lc.p:Lc->Lp
 | .B k a b=>Lp.df k 0 a.pn b.pn
 | .C k a b=>Lp.df k 1 a.pn b.pn
 | .D k a b=>Lp.df k 0 a.pn b.pn
 | .F k a b=>Lp.df k 0 a.p b.p
 | .G k a b=>Lp.df k 1 a.p b.p
 | .H k a b=>Lp.df k 0 a.p b.p
 | .I k a b=>Lp.df k 1 b.pn a.pn
 | .J k a b=>Lp.df k 0 b.pn a.pn
 | .K k a b=>Lp.df k 1 b.p a.p
 | .L k a b=>Lp.df k 0 b.p a.p
 | .no=>⟨0,[],[]⟩
noncomputable def Lc.nt:Lc->Lc
 | .B k a b=>.C k b a
 | .C k a b=>.B k b a
 | .F k a b=>.G k b a
 | .G k a b=>.F k b a
 | .I k a b=>.B k a b
 | .J k a b=>.C k a b
 | .K k a b=>.F k a b
 | .L k a b=>.G k a b
 | _=>.D 0 (.k 0) (.k 0)
theorem FZ{ns is}{k:Nat}{d:Int}{a b:Lp}(h:a.ev ns is+d<=b.ev ns is):0<=(Lp.df k d a b).ev ns is:=by
 unfold Lp.df;rw [Lp.ev_mul,Lp.ev_add,Lp.ev_mul,Lp.ev_add,ev_k,fV];exact Int.mul_nonneg (dT k) (Int.sub_nonneg_of_le h)
theorem df_eq{ns is}{k:Int}{a b:Lp}(h:a.ev ns is=b.ev ns is):0<=(Lp.df k 0 a b).ev ns is:=by
 unfold Lp.df;rw [Lp.ev_mul,Lp.ev_add,Lp.ev_mul,Lp.ev_add,ev_k,fV,bB,h,Int.add_right_neg,Int.mul_zero];exact eT _
theorem Lc.ok(ns is):∀c:Lc,c.den ns is->0<=c.p.ev ns is
 | .B k a b,h=>FZ (by rw [bB,<- La.pn_ok,<- La.pn_ok];exact dU.mpr h)
 | .C k a b,h=>FZ (by rw [<- La.pn_ok,<- La.pn_ok];exact dU.mpr h)
 | .D k a b,h=>df_eq (by rw [<- La.pn_ok,<- La.pn_ok];exact congrArg _ h)
 | .F k a b,h=>FZ (by rw [bB,<- La.p_ok,<- La.p_ok];exact h)
 | .G k a b,h=>FZ (by rw [<- La.p_ok,<- La.p_ok];exact h)
 | .H k a b,h=>df_eq (by rw [<- La.p_ok,<- La.p_ok];exact h)
 | .I k a b,h=>FZ (by rw [<- La.pn_ok,<- La.pn_ok];exact dU.mpr (Nat.lt_of_not_le h))
 | .J k a b,h=>FZ (by rw [bB,<- La.pn_ok,<- La.pn_ok];exact dU.mpr (Nat.le_of_not_lt h))
 | .K k a b,h=>FZ (by rw [<- La.p_ok,<- La.p_ok];exact Int.lt_of_not_ge h)
 | .L k a b,h=>FZ (by rw [bB,<- La.p_ok,<- La.p_ok];exact fw.mp h)
 | .no,h=>h.elim
theorem Lc.nt_ok(ns is):∀c:Lc,c.nt.den ns is\/c.den ns is
 | .B _ a b=>bJ (b.n ns) (a.n ns)
 | .C _ a b=>(bJ (a.n ns) (b.n ns)).symm
 | .F _ a b=>Int.lt_or_le (b.i ns is) (a.i ns is)
 | .G _ a b=>(Int.lt_or_le (a.i ns is) (b.i ns is)).symm
 | .I _ a b=>ip (a.n ns<=b.n ns)
 | .J _ a b=>ip (a.n ns<b.n ns)
 | .K _ a b=>ip (a.i ns is<=b.i ns is)
 | .L _ a b=>ip (a.i ns is<b.i ns is)
 | .D _ _ _ | .H _ _ _ | .no=>.inl rfl
noncomputable def tot:List Lc->Lp
 | []=>⟨0,[],[]⟩
 | c::r=>c.p.add (tot r)
noncomputable def np:Int->Bool
 | .ofNat 0=>true
 | .ofNat _=>false
 | .negSucc _=>true
noncomputable def nz:Int->Bool
 | .ofNat 0=>true
 | _=>false
noncomputable def ng:Int->Bool
 | .ofNat _=>false
 | .negSucc _=>true
noncomputable def Lp.bad(p:Lp):Bool:=ng p.k && (p.n.all np && p.i.all nz)
noncomputable def dAll(ns:List Nat)(is:List Int)(P:Prop):List Lc->Prop
 | []=>P
 | c::r=>c.den ns is->dAll ns is P r
theorem ands{a b:Bool}(h:(a && b)=true):a=true/\b=true:=by
 cases a
 ·cases h
 ·exact ⟨rfl,h⟩
theorem np_le{z:Int}(h:np z=true):z<=0:=by
 cases z with
 | ofNat n=>cases n with
  | zero=>exact eT _
  | succ n=>cases h
 | negSucc n=>exact Int.negSucc_le_zero n
theorem nz_eq{z:Int}(h:nz z=true):z=0:=by
 cases z with
 | ofNat n=>cases n with
  | zero=>rfl
  | succ n=>cases h
 | negSucc n=>cases h
theorem ng_lt{z:Int}(h:ng z=true):z<0:=by
 cases z with
 | ofNat n=>cases h
 | negSucc n=>exact Int.negSucc_lt_zero n
theorem np_all:∀{l:List Int},l.all np=true->∀ns,CX l (Ja ns)<=0
 | [],_,_=>eT _
 | z::r,_,[]=>eT _
 | z::r,h,n::s=>by
  have h:=ands h;exact Int.add_nonpos (Int.mul_nonpos_of_nonpos_of_nonneg (np_le h.1) (dT n)) (np_all h.2 s)
theorem nz_all:∀{l:List Int},l.all nz=true->∀is,CX l is=0
 | [],_,_=>rfl
 | z::r,_,[]=>rfl
 | z::r,h,n::s=>by
  have h:=ands h;show z * n+CX r s=0;rw [nz_eq h.1,nz_all h.2 s,Int.zero_mul];rfl
theorem bad_lt{p:Lp}(h:p.bad=true)(ns is):p.ev ns is<0:=by
 have h1:=ands h;have h2:=ands h1.2;have e:=np_all h2.1 ns;unfold Lp.ev;rw [nz_all h2.2 is,bB];exact Int.add_neg_of_neg_of_nonpos (ng_lt h1.1) e
theorem dAll_of{ns is}{P:Prop}:∀(cs:List Lc),(0<=(tot cs).ev ns is->P)->dAll ns is P cs
 | [],h=>h (eT _)
 | c::r,h=>fun hc=>dAll_of r fun hr=>h (by
  show 0<=(c.p.add (tot r)).ev ns is;rw [Lp.ev_add];exact Int.add_nonneg (c.ok ns is hc) hr)
abbrev K0:La:=.k 0
abbrev K1:La:=.k 1
abbrev Eb:La:=.k 100
abbrev AE:La:=.k 1000
abbrev Gl:La:=.k 10000
abbrev Az:La:=.k 1000000
abbrev B2:La:=.k 10000000
abbrev K14:La:=.k 14
abbrev K15:La:=.k 15
abbrev A3:La:=.k 16777216
abbrev K17:La:=.k 17
abbrev K18:La:=.k 18
abbrev K2:La:=.k 2
abbrev K28:La:=.k 28
abbrev K29:La:=.k 29
abbrev K3:La:=.k 3
abbrev K30:La:=.k 30
abbrev K36:La:=.k 36
abbrev K4:La:=.k 4
abbrev K5:La:=.k 5
abbrev K6:La:=.k 6
abbrev K61:La:=.k 61
abbrev K63:La:=.k 63
abbrev K64:La:=.k 64
abbrev K7:La:=.k 7
abbrev K8:La:=.k 8
abbrev Gk:La:=.k 900
abbrev BG:La:=.k 9000
abbrev CW:La:=.k 92233720368547758
abbrev Cc:La:=.k 9223372036854775808
abbrev Eh:La:=.k 9900
abbrev Km1:La:=.k (-1)
abbrev Km100:La:=.k (-100)
abbrev Bk:La:=.k (-1000000)
abbrev B9:La:=.k (-10000000)
abbrev B1:La:=.k (-9223372036854775808)
abbrev V0:La:=.v 0
abbrev V1:La:=.v 1
abbrev V2:La:=.v 2
abbrev V3:La:=.v 3
abbrev V4:La:=.v 4
abbrev V5:La:=.v 5
abbrev V6:La:=.v 6
noncomputable abbrev Lc.b(x y:La):Lc:=.B 1 x y
noncomputable abbrev Lc.c(x y:La):Lc:=.C 1 x y
noncomputable abbrev Lc.d(x y:La):Lc:=.D 1 x y
noncomputable abbrev Lc.f(x y:La):Lc:=.F 1 x y
noncomputable abbrev Lc.g(x y:La):Lc:=.G 1 x y
noncomputable abbrev Lc.h(x y:La):Lc:=.H 1 x y
noncomputable abbrev Lc.i(x y:La):Lc:=.I 1 x y
noncomputable abbrev Lc.j(x y:La):Lc:=.J 1 x y
noncomputable abbrev Lc.k(x y:La):Lc:=.K 1 x y
noncomputable abbrev Lc.l(x y:La):Lc:=.L 1 x y
theorem lin(ns:List Nat)(is:List Int)(g:Lc)(cs:List Lc)(h:((g.nt.p).add (tot cs)).bad=true):dAll ns is (g.den ns is) cs :=
 dAll_of cs fun hs=>(g.nt_ok ns is).elim (fun hg=>(gr.mpr (bad_lt h ns is) (by rw [Lp.ev_add];exact Int.add_nonneg (Lc.ok ns is _ hg) hs)).elim) id
theorem sub_sp(a b:Nat):(b<=a/\a - b+b=a)\/(a<b/\a - b=0) :=
 (bJ a b).symm.imp (fun h=>⟨h,an h⟩) fun h=>⟨h,Nat.sub_eq_zero_of_le (cK h)⟩
theorem Hg(z:Int):(0<=z/\(z.toNat:Int)=z)\/(z<0/\z.toNat=0) :=
 (Int.lt_or_le z 0).symm.imp (fun h=>⟨h,au h⟩) fun h=>⟨h,Int.toNat_of_nonpos (Int.le_of_lt h)⟩
theorem J7(a b:Nat):max a b=a\/max a b=b:=(Nat.le_total b a).imp Nat.max_eq_left Nat.max_eq_right
theorem GF(a b:Nat):min a b=a\/min a b=b:=(Nat.le_total a b).imp Nat.min_eq_left Nat.min_eq_right
theorem Co(a b:Int):max a b=a\/max a b=b:=(Int.le_total b a).imp Int.max_eq_left Int.max_eq_right
end
section
noncomputable def I8(B:Nat):List Nat->Nat
 | []=>0
 | c::l=>I8 B l * B+(c+1)
theorem Lj{B a b c d:Nat}(hc:c+1<B)(hd:d+1<B)(h:a * B+(c+1)=b * B+(d+1)):c=d/\a=b:=by
 have e1:(a * B+(c+1)) % B=c+1:=by rw [Nat.mul_comm,Nat.mul_add_mod,Nat.mod_eq_of_lt hc]
 have e2:(b * B+(d+1)) % B=d+1:=by rw [Nat.mul_comm,Nat.mul_add_mod,Nat.mod_eq_of_lt hd]
 rw [h,e2] at e1;have z:d=c:=e6 e1;clear e1;subst z;have hB:0<B:=cW (cI _) hc;exact ⟨rfl,Nat.eq_of_mul_eq_mul_right hB (Nat.add_right_cancel h)⟩
theorem codeB_inj{B:Nat}:∀(a b:List Nat),(∀c∈a,c+1<B)->(∀c∈b,c+1<B)->I8 B a=I8 B b->a=b
 | [],[],_,_,_=>rfl
 | [],c::l,_,_,h=>by simp [I8] at h
 | c::l,[],_,_,h=>by simp [I8] at h
 | c::l,d::k,ha,hb,h=>by
  refine Ao (Lj (ha c (.head _)) (hb d (.head _)) h) fun h1 h2=>?_;rw [h1,codeB_inj l k (fun x hx=>ha x (.tail _ hx)) (fun x hx=>hb x (.tail _ hx)) h2]
noncomputable def codeL(l:List Nat):Nat:=I8 2097152 l
noncomputable def J3(l:List Nat):Bool:=l.all fun c=>gI (c+1) 2097152
theorem Lv(a b:List Nat)(ha:J3 a=true)(hb:J3 b=true)(h:codeL a=codeL b):a=b :=
 codeB_inj a b (fun c hc=>by have:=cA.mp ha c hc;exact ef.mp this) (fun c hc=>by have:=cA.mp hb c hc;exact ef.mp this) h
noncomputable def code(x:Str):Nat:=if J3 x.cps.toList then codeL x.cps.toList else 0
theorem code_inj{x y:Str}(h:code x=code y)(hx:code x≠0):x=y:=by
 unfold code at h hx
 by_cases a:J3 x.cps.toList=true
 ·rw [if_pos a] at h hx
  by_cases b:J3 y.cps.toList=true
  ·rw [if_pos b] at h
   have:=Lv _ _ a b h
   obtain ⟨⟨cx⟩⟩:=x;obtain ⟨⟨cy⟩⟩:=y;simp only at this;rw [this]
  ·rw [if_neg b] at h;exact absurd h hx
 ·rw [if_neg a] at hx;exact absurd rfl hx
noncomputable def ixN:List Nat->Nat->Option Nat
 | [],_=>none
 | d::l,c=>if cw c d then some 0 else (ixN l c).map (·+1)
theorem GQ:∀{l:List Nat}{c i:Nat},ixN l c=some i->l[i]?=some c
 | [],_,_,h=>by cases h
 | d::l,c,i,h=>by
  unfold ixN at h
  by_cases e:cw c d=true
  ·rw [if_pos e] at h;cases h;simp [bU e]
  ·rw [if_neg e] at h
   cases q:ixN l c with
   | none=>rw [q] at h;cases h
   | some j=>rw [q] at h;cases h;simpa using GQ q
noncomputable def ixS(tb:List Nat)(x:Str):Option Nat:=if code x=0 then none else ixN tb (code x)
theorem BK{tb:List Nat}{x y:Str}{i:Nat}(hx:ixS tb x=some i)(hy:ixS tb y=some i):x=y:=by
 unfold ixS at hx hy
 by_cases a:code x=0
 ·rw [if_pos a] at hx;cases hx
 ·by_cases b:code y=0
  ·rw [if_pos b] at hy;cases hy
  ·rw [if_neg a] at hx
   rw [if_neg b] at hy;have h1:=GQ hx;have h2:=GQ hy;rw [h1] at h2;exact code_inj (ar h2) a
noncomputable def GT:List Nat:=[488183376642157,80033084540641898480094239089228231436665003453574281166954,514571674583146,1005348044598614687843,1972967942959123809794261109,1079135038485626355821,505775594143860,1079134968116882178149,1972967896842254829385416819,38162751627490379747452398003482574466029863143735398,4097048712905654171746245472682100,483785363685492,510173602906210,488183385030766,532163833364590,479387298300002,536561907138658,90233379350378998227153712756468239537380784352481645690967,90233379350378998227153712756468490993895923976323018522695,20516695110558990338349423043768236959579766851,4097048712905654171746245443321937,1953625065281667892816904265,4421567401963634344580608052691023,38911039395368713077120569378125327593434223166357571,18554229448017460382995876969397224232426930255,43400773495684931299990303152339635632874951695925327,4502697156435267283308154296729679,9953264140782547107729548004762710966339,26938412273360973710146055992342944584562113553367118,2224424541109078390632087623,18197417354700030340848489945371723337639657578,9953263775699387013229657059599239348330,18375823571499401479770734400747965486269988976,9187628571821442950012028645006517469290,9527911019871981142584984497405730750575,181005589184799986677156147774642533556690027265787335787732271220,20695101752711969165474692825965948435387383906,166196047384272537809289455056229126457739035918218201144596889700,18197416589064299120564216867920607479947329642,169487057283544435640426665101935405545032624369300756501555576945,45645636799317123958615858659419724959709671387562093,171132561056231666204508540239819374032478365443519710043144454261,4502697098406625027691511828971629,846730049398473916085087584128933697840380091329857293191965510740677956206701,18375823571499401479790077204638471496639971433,18375823571499401479790077213861799553046413428,396850582782009359370119880267881792802359345170147795437217238556344423,95725838504961505145080012563471106329936091183885114671209,80817726747295587368214924465216021871482886418226535727209,190878618882635509821928589408131882311271528517103037820484714594,91018018938022645045637264236535371547050118533823877611626,181005589184799986677156147774642655251399105783183241273292095597,81602364090076287366173780493044425818343523366074587283562,3310185146202486990159897262910785962440316216946269930930577122749621626347220819221938276,9953263207791589283113833233319297286261,18375823571499401479790077296872209457415716981,43774914525127606634948462309549954583142299009548405,192524123439955219288904614187488428846096326495758438584626970741,4583826736821425400178084581212266,189233104125027351079044284948292633439235375008653565194139598959,182651085895739159611544028051033954835980804142498541835594498168,18375823571499401479770734400748049049147408493,18375823571499401479770734400748018262823927926,41530051043090558306419451808164507616289346805563503,171132561056231666204508540239819374032478365591093693419117084781,358890992684198351244117494181017679890960069356093321341288232567963757,3310185146202486990197856839844549527063395318482692411445352864523095987143731162826932328,10378616207007581569746392292124973334644,10378616207007581569727945570041487949924,91802658151523121551182478706899233711977115684111583805556,21765535735758363704234157414456811028979122279,43774918628465233588782538751077194349118739659620467,403752322546769924304731750433691914414489823876796984833443022619279456,79248447572009185758333506431352985962475023867187635945568,7742956824657454511956318923814547708781627226174131122382169039603859410782705933984571542470752,421006690059250891097143695140917066809609715599597812568445437129785440,839493061075507520855370235839129965667347155426955459942090491728453699633248,91018015944868005415624299308479862754795154219907449618528,91018015570724656694342399756974592903473822180854263185504,80033088656230687610814220734090481631045705683825583980640,91018014074146266443651458333636699022498581066138634944608,18197418120334909699774667083190765414510493792,81602364090077357802283592532699828490939855109768301510752,43774916844405617705602520682488447646056418390311008,376145337159623361912698492388468032872923258503129083604288419640901728,3723957881593141820746691508245982495671109949404972261701025290226972580569300003874406496,41530051043090558306419451808164535286304302314815584,7742956665513927798097241316892216214588599199992503912193136464043409796016289409272493773946976,882915022071138124765372453842085820144227560863652118647196572824639041962080,90233375608932308976580008428965506433129796719669223096416,37788605781087166882797726435001178606952615065419872,91802656280803345044191614365910231084237604146364133933152,166196040322526725043969524243678063596587590643091508768591052896,348538364936483441850335885126143820542383599358076084550426633208594528,846730049398473916085087584128933697840465161678198612564186553338684774547552,91018012951712652162785828947459767547022670722609534992480,82387004051868278273799477919677025937730432309507471179872,400301477346956824698566919056352424534797759621257456523006554629210208,90233375608934093035855608268506975583308188893790917886048,167841544095212084885777211650720385374882549712431272192582352992,3723958154780933078993815348549031929600789542461701977153418488425042733009601494769467488,79248447572006866481683564677070781918793014781436403646560,190878607897710840194831257729729748984291347386754377891931226208,348538358354479336047783637559236661292520842545390999917957776140140640,42278337562126394882722636668977402652438790710231136,400301477346956824694077185134442593252847708572699835991927056798580832,38162750378648648629778066780632868089197520152952928,348538358354469920392561545711964376848906820579848583725870345019719776,40407615109529299628999473434303460201105905516806240,91018016693157914166177253055962971198019440249030815252576,400301455955399148798322214679042067742290137871126482889589276698214496,403752355456873624927459489802379276535130602047601608300036202864574560,91802655906658390669510632506423932130708194924539850784864,43774918628465233588782538751077369593187439915040864,37788603818620738706104457995284705495682434113470560,3692129528359153038004073583514481007015027167786146815651303681903408044680313940553498720,19446259085817177329131502603843663253859205216,348538358354470705026162880436335778493756426633483496118712640695435360,91802656280800312142504332077630959006909194449134567817312,527765786853485,2108367634755896306667880544]
noncomputable def AT:List Nat:=[4097048886990833845663497717809250,496979490635889,4746086071678939754579271075496042,2224424411981825894200115300,4097048886990833845681089920630886,8677205062005183289952466234080782975091,514571655708776,91802653661792946164417784946020646843673666288009024110708,1023794762284045172843,2263110111996501108962885748,8677204412967747145340641066502926106739,2243767400339812224105185397,488183414390896,4097048886990981419611689351905378,1069911684040970207347,510173600809065,2243767326552783152708845668,4137613512770042941672065802960995,9868193305663397248283467000068658167908,2224424448875353624042012778]
set_option genCtorIdx false in
inductive E where
 | none
 | bool (b:Bool)
 | int (i:Int)
 | str (s:Str)
 | v (i:Nat)
 | g (i:Nat)
 | tup (es:List E)
 | list (es:List E)
 | dict (ks vs:List E)
 | bin (op:hV) (l r:E)
 | neg (x:E)
 | not (x:E)
 | and (es:List E)
 | or (es:List E)
 | cmp (op:CmpOp) (l r:E)
 | cmp2 (o1 o2:CmpOp) (a b c:E)
 | ite (c a b:E)
 | sub (o i:E)
 | slice (o lo hi st:E)
 | attr (o:E) (n:Nat)
 | call (f:E) (args:List E)
 | sorted (x f:E)
 | meth (o:E) (n:Nat) (args:List E)
 | comp (elt:E) (x:Nat) (src:E) (c:List E)
 | mu (l:Nat) (e:E)
noncomputable abbrev E.ctorIdx(x:E):Nat:=@E.casesOn (fun _=>Nat) x 0 (fun _=>1) (fun _=>2) (fun _=>3) (fun _=>4) (fun _=>5) (fun _=>6) (fun _=>7) (fun _ _=>8) (fun _ _ _=>9) (fun _=>10) (fun _=>11) (fun _=>12) (fun _=>13) (fun _ _ _=>14) (fun _ _ _ _ _=>15) (fun _ _ _=>16) (fun _ _=>17) (fun _ _ _ _=>18) (fun _ _=>19) (fun _ _=>20) (fun _ _=>21) (fun _ _ _=>22) (fun _ _ _ _=>23) (fun _ _=>24)
set_option genCtorIdx false in
inductive Pat where
 | v (i:Nat)
 | tup (ps:List Pat)
noncomputable abbrev Pat.ctorIdx(x:Pat):Nat:=@Pat.casesOn (fun _=>Nat) x (fun _=>0) (fun _=>1)
set_option genCtorIdx false in
inductive S where
 | assign (p:Pat) (e:E)
 | setattr (o:E) (n:Nat) (e:E)
 | setitem (o i e:E)
 | expr (e:E)
 | ret (e:E)
 | ite (c:E) (a b:List S)
 | for_ (p:Pat) (e:E) (body:List S)
 | while_ (c:E) (body:List S)
 | raise (e:E)
 | try_ (body:List S) (cls:E) (x:Option Nat) (h:List S)
 | pass
noncomputable abbrev S.ctorIdx(x:S):Nat:=@S.casesOn (fun _=>Nat) x (fun _ _=>0) (fun _ _ _=>1) (fun _ _ _=>2) (fun _=>3) (fun _=>4) (fun _ _ _=>5) (fun _ _ _=>6) (fun _ _=>7) (fun _=>8) (fun _ _ _ _=>9) 10
noncomputable def okName(x:Str):Bool:=!(cw (code x) 35917881366025429935618926129718285898815186866798688) && !(cw (code x) 694752866707914342600158099379000926982518397911170979246594950709587596017760)
theorem A4{x:Str}(h:okName x=true):(x == ("__debug__":Str))=false:=by
 cases q:x == ("__debug__":Str) with
 | false=>rfl
 | true =>
  rw [eq_of_beq q] at h
  have:okName ("__debug__":Str)=false:=by decide +kernel
  rw [this] at h;cases h
theorem J2{x:Str}(h:okName x=true):(x == ("__classdict__":Str))=false:=by
 cases q:x == ("__classdict__":Str) with
 | false=>rfl
 | true =>
  rw [eq_of_beq q] at h
  have:okName ("__classdict__":Str)=false:=by decide +kernel
  rw [this] at h;cases h
noncomputable def relab(sc names:List (Str×cC)):List (Str×cC) :=
 names.map fun (n,k)=>if (k == .free && sc.lookup n == some .cell) then (n,.cell) else (n,k)
noncomputable def Ba:ai->Bool
 | .Starred ..=>false
 | _=>true
noncomputable def Ds:ai->Bool
 | .Call (.Name _ _) [] [] _=>false
 | _=>true
noncomputable def BJ:ai->Bool
 | .Slice ..=>false
 | _=>true
noncomputable def Bb:ai->Bool
 | .Set ..=>false
 | _=>true
noncomputable def DF(tb:List Nat)(sc:List (Str×cC))(x:Str)(p:Str×cC):Bool:=match p.2 with
 | .local | .cell=>(ixS tb p.1).isNone || ixS tb p.1 == ixS tb x
 | .free=>sc.lookup p.1 == some .cell
 | .globalImplicit=>true
 | .globalExplicit=>false
end
section
noncomputable abbrev Af:=Int×Int
set_option genCtorIdx false in
set_option genInjectivity true in
inductive AV where
 | none
 | bool (b:Bool)
 | int (i:Int)
 | str (s:Str)
 | tup (l:List AV)
 | list (l:List AV)
 | dict (l:List (Af×AV))
 | inst (fs:List (Str×AV))
 | loc (a:Addr) (i:Nat)
 | exc (c:Nat)
 | range (a b c:Int)
 | nums (l:List Int)
 | cls (c:Nat)
noncomputable abbrev AV.ctorIdx(x:AV):Nat:=@AV.casesOn (fun _=>Nat) x 0 (fun _=>1) (fun _=>2) (fun _=>3) (fun _=>4) (fun _=>5) (fun _=>6) (fun _=>7) (fun _ _=>8) (fun _=>9) (fun _ _ _=>10) (fun _=>11) (fun _=>12)
set_option genCtorIdx false in
inductive AObj where
 | list (l:List AV)
 | dict (l:List (Af×AV))
 | inst (dx:Addr)
 | attrs (fs:List (Str×AV))
noncomputable abbrev AObj.ctorIdx(x:AObj):Nat:=@AObj.casesOn (fun _=>Nat) x (fun _=>0) (fun _=>1) (fun _=>2) (fun _=>3)
theorem Ak{α:Type}{x:Option α}{o:α}(q:x=aa)(e:x=some o):False:=by rw [q] at e;cases e
theorem AG{α β:Type}{o:Option α}{f:α->Option β}{b:β}(h:o.bind f=some b):∃a,o=some a/\f a=some b:=by
 cases o with
 | none=>cases h
 | some a=>exact ⟨a,rfl,h⟩
noncomputable def one?{α:Type}:List α->Option α
 | []=>aa
 | a::r=>(match r with
  | []=>some a
  | _::_=>aa)
noncomputable def two?{α:Type}:List α->Option (α×α)
 | []=>aa
 | a::r=>(one? r).bind fun b=>some (a,b)
theorem one?_out{α:Type}{l:List α}{a:α}(h:one? l=some a):l=[a]:=by
 cases l with
 | nil=>cases h
 | cons b r =>
  cases r with
  | nil=>cases h;rfl
  | cons _ _=>cases h
theorem two?_out{α:Type}{l:List α}{p:α×α}(h:two? l=some p):l=[p.1,p.2]:=by
 cases l with
 | nil=>cases h
 | cons a r =>
  refine X1pp (AG h) fun b h1 h2=>?_
  cases h2
  rw [one?_out h1]
noncomputable def AV.int?:AV->Option Int
 | .int x=>some x
 | _=>aa
noncomputable def AV.tup?:AV->Option (List AV)
 | .tup l=>some l
 | _=>aa
theorem AV.int?_out{a:AV}{x:Int}(h:a.int?=some x):a=.int x:=by
 cases a with
 | int y=>cases h;rfl
 | _=>exact (Ak rfl h).elim
theorem AV.tup?_out{a:AV}{l:List AV}(h:a.tup?=some l):a=.tup l:=by
 cases a with
 | tup y=>cases h;rfl
 | _=>exact (Ak rfl h).elim
noncomputable def AObj.list?:AObj->Option (List AV)
 | .list l=>some l
 | _=>aa
noncomputable def AObj.dict?:AObj->Option (List (Af×AV))
 | .dict l=>some l
 | _=>aa
noncomputable def AObj.inst?:AObj->Option Addr
 | .inst d=>some d
 | _=>aa
noncomputable def AObj.attrs?:AObj->Option (List (Str×AV))
 | .attrs l=>some l
 | _=>aa
theorem AObj.list?_out{o:AObj}{l:List AV}(h:o.list?=some l):o=.list l:=by
 cases o with
 | list y=>cases h;rfl
 | _=>exact (Ak rfl h).elim
theorem AObj.dict?_out{o:AObj}{l:List (Af×AV)}(h:o.dict?=some l):o=.dict l:=by
 cases o with
 | dict y=>cases h;rfl
 | _=>exact (Ak rfl h).elim
theorem AObj.inst?_out{o:AObj}{d:Addr}(h:o.inst?=some d):o=.inst d:=by
 cases o with
 | inst y=>cases h;rfl
 | _=>exact (Ak rfl h).elim
theorem AObj.attrs?_out{o:AObj}{l:List (Str×AV)}(h:o.attrs?=some l):o=.attrs l:=by
 cases o with
 | attrs y=>cases h;rfl
 | _=>exact (Ak rfl h).elim
noncomputable def int2?(a b:AV):Option Af:=a.int?.bind fun x=>b.int?.bind fun y=>some (x,y)
noncomputable def spot?(a:AV):Option Af:=a.tup?.bind fun l=>(two? l).bind fun p=>int2? p.1 p.2
theorem int2?_out{a b:AV}{k:Af}(h:int2? a b=some k):a=.int k.1/\b=.int k.2:=by
 refine X1pp (AG h) fun x h1 h=>?_;refine X1pp (AG h) fun y h2 h=>?_
 cases h
 exact ⟨AV.int?_out h1,AV.int?_out h2⟩
theorem spot?_out{a:AV}{k:Af}(h:spot? a=some k):a=.tup [.int k.1,.int k.2]:=by
 refine X1pp (AG h) fun l h1 h=>?_;refine X1pp (AG h) fun p h2 h=>?_;refine Ao (int2?_out h) fun e1 e2=>?_;rw [AV.tup?_out h1,two?_out h2,e1,e2]
noncomputable abbrev Store:=Addr->Option AObj
noncomputable def Dom(V:Store)(a:Addr):Prop:=V a≠aa
noncomputable def Store.set(V:Store)(a:Addr)(o:AObj):Store:=fun b=>if b=a then some o else V b
theorem Store.set_self(V:Store)(a:Addr)(o:AObj):(V.set a o) a=some o:=if_pos rfl
theorem Store.set_ne(V:Store){a b:Addr}(o:AObj)(h:b≠a):(V.set a o) b=V b:=if_neg h
noncomputable def A8(k:Af):Int:=reduceHash (Builtin.Tuple.tupleHashOf [hashInt k.1,hashInt k.2])
noncomputable abbrev Br(vs:Array Value)(n:Nat):Obj:={ cls:=.type "tuple",data:=.seq vs n }
noncomputable abbrev AB(vs:Array Value)(n:Nat):Obj:={ cls:=.type "list",data:=.seq vs n }
noncomputable abbrev Hm(a b c:Int)(t u v:Tok):Obj:={ cls:=.type "range",data:=.fields #[.int a t,.int b u,.int c v] }
noncomputable abbrev AP(es:Array aO)(n:Nat):Obj:={ cls:=.type "dict",data:=.dict es n }
noncomputable abbrev Dg(C:Value)(dx:Addr):Obj:={ cls:=C,dict:=some dx,data:=.plain }
noncomputable abbrev BR:Nat:=29
variable {cv:Nat->Value}
mutual
inductive Rep(cv:Nat->Value)(h:Heap)(D:Addr->Prop):AV->Value->Prop
 | none:Rep cv h D .none .none
 | bool (b:Bool):Rep cv h D (.bool b) (.bool b)
 | int (i:Int)(t:Tok):Rep cv h D (.int i) (.int i t)
 | str (s:Str)(t:Tok):Rep cv h D (.str s) (.str s t)
 | tup {l:List AV}{a:Addr}{vs:List Value}{n:Nat}:h.get? a=some (Br vs.toArray n)->¬D a->RepL cv h D l vs->Rep cv h D (.tup l) (.ref a)
 | list {l:List AV}{a:Addr}{vs:List Value}{n:Nat}:h.get? a=some (AB vs.toArray n)->¬D a->RepL cv h D l vs->Rep cv h D (.list l) (.ref a)
 | dict {l:List (Af×AV)}{a:Addr}{es:List aO}{n:Nat}:h.get? a=some (AP es.toArray n)->¬D a->(a == cp)=false->(l.map (·.1)).Nodup->RepD cv h D l es->Rep cv h D (.dict l) (.ref a)
 | inst {fs:List (Str×AV)}{a dx:Addr}{es:List aO}{n:Nat}:h.get? a=some (Dg (cv BR) dx)->(∃C,cv BR=.ref C)->h.get? dx=some (AP es.toArray n)->¬D a->¬D dx->RepF cv h D fs es->Rep cv h D (.inst fs) (.ref a)
 | loc (a:Addr)(i:Nat):Rep cv h D (.loc a i) (.ref a)
 | exc {c:Nat}{a:Addr}{o:Obj}:h.get? a=some o->o.cls=cv c->((∃vs,o.data=.fields vs)/\o.dict=aa)->¬D a->(∃C,cv c=.ref C)->Rep cv h D (.exc c) (.ref a)
 | range {a b c:Int}{r:Addr}{t u v:Tok}:h.get? r=some (Hm a b c t u v)->¬D r->Rep cv h D (.range a b c) (.ref r)
 | cls (c:Nat):Rep cv h D (.cls c) (cv c)
 | nums {l:List Int}{a:Addr}{o:Obj}{vs:List Value}{n:Nat}:h.get? a=some o->o.cls=.type "list"->o.data=.seq vs.toArray n->¬D a->(vs.length=l.length/\∀(i:Nat)(x:Int),l[i]?=some x->∃t,vs[i]?=some (.int x t))->Rep cv h D (.nums l) (.ref a)
inductive RepL(cv:Nat->Value)(h:Heap)(D:Addr->Prop):List AV->List Value->Prop
 | nil:RepL cv h D [] []
 | cons {x:AV}{v:Value}{l:List AV}{vs:List Value}:Rep cv h D x v->RepL cv h D l vs->RepL cv h D (x::l) (v::vs)
inductive RepD(cv:Nat->Value)(h:Heap)(D:Addr->Prop):List (Af×AV)->List aO->Prop
 | nil:RepD cv h D [] []
 | cons {k:Af}{x:AV}{l:List (Af×AV)}{t:Addr}{tx ty:Tok}{n:Nat}{v:Value}{es:List aO} :
   h.get? t=some (Br #[.int k.1 tx,.int k.2 ty] n)->¬D t->Rep cv h D x v->RepD cv h D l es->RepD cv h D ((k,x)::l) (⟨A8 k,.ref t,v⟩::es)
inductive RepF(cv:Nat->Value)(h:Heap)(D:Addr->Prop):List (Str×AV)->List aO->Prop
 | nil:RepF cv h D [] []
 | cons {n:Str}{x:AV}{l:List (Str×AV)}{hsh:Int}{t:Tok}{v:Value}{es:List aO} :
   Rep cv h D x v->RepF cv h D l es->RepF cv h D ((n,x)::l) (⟨hsh,.str n t,v⟩::es)
end
structure Ext(D:Addr->Prop)(h h':Heap):Prop where
 obj:∀b o,h.get? b=some o->¬D b->h'.get? b=some o
theorem Ext.refl(D:Addr->Prop)(h:Heap):Ext D h h:=⟨fun Z Z e Z=>e⟩
theorem Ext.of_keeps{D:Addr->Prop}{h h':Heap}(k:∀b o,h.get? b=some o->h'.get? b=some o):Ext D h h':=⟨fun b o e Z=>k b o e⟩
theorem Ext.of_but{D:Addr->Prop}{h h':Heap}(k:∀b o,¬D b->h.get? b=some o->h'.get? b=some o):Ext D h h':=⟨fun b o e d=>k b o d e⟩
theorem Ext.trans{D D':Addr->Prop}{h h' u:Heap}(x:Ext D h h')(y:Ext D' h' u)(hD:∀b,D' b->D b\/h.get? b=aa):Ext D h u :=
 ⟨fun b o e d=>y.obj b o (x.obj b o e d) fun d'=>(hD b d').elim d fun q=>Ak q e⟩
noncomputable def RepV(cv:Nat->Value)(h:Heap)(D:Addr->Prop)(a:AV)(v:Value):Prop:=match a with
 | .none=>v=.none
 | .bool b=>v=.bool b
 | .int i=>∃t,v=.int i t
 | .str s=>∃t,v=.str s t
 | .tup l=>∃a vs n,v=.ref a/\h.get? a=some (Br (aA vs) n)/\¬D a/\RepL cv h D l vs
 | .list l=>∃a vs n,v=.ref a/\h.get? a=some (AB (aA vs) n)/\¬D a/\RepL cv h D l vs
 | .dict l=>∃a es n,v=.ref a/\h.get? a=some (AP (aA es) n)/\¬D a/\(a == cp)=false/\(l.map (·.1)).Nodup/\RepD cv h D l es
 | .inst fs=>∃a dx es n,v=.ref a/\h.get? a=some (Dg (cv BR) dx)/\(∃C,cv BR=.ref C)/\h.get? dx=some (AP (aA es) n)/\¬D a/\¬D dx/\RepF cv h D fs es
 | .loc a _=>v=.ref a
 | .exc c=>∃a o,v=.ref a/\h.get? a=some o/\o.cls=cv c/\((∃vs,o.data=.fields vs)/\o.dict=aa)/\¬D a/\(∃C,cv c=.ref C)
 | .range a b c=>∃r t u w,v=.ref r/\h.get? r=some (Hm a b c t u w)/\¬D r
 | .cls c=>v=cv c
 | .nums l=>∃a o vs n,v=.ref a/\h.get? a=some o/\o.cls=.type "list"/\o.data=.seq (aA vs) n/\¬D a/\(vs.length=l.length/\∀(i:Nat)(x:Int),l[i]?=some x->∃t,vs[i]?=some (.int x t))
theorem Rep.inv{h:Heap}{D:Addr->Prop}{a:AV}{v:Value}(r:Rep cv h D a v):RepV cv h D a v:=by
 induction r using Rep.casesOn with
 | none=>exact rfl
 | bool b=>exact rfl
 | int i t=>exact ⟨t,rfl⟩
 | str s t=>exact ⟨t,rfl⟩
 | tup a b c=>exact ⟨_,_,_,rfl,a,b,c⟩
 | list a b c=>exact ⟨_,_,_,rfl,a,b,c⟩
 | dict a b c d e=>exact ⟨_,_,_,rfl,a,b,c,d,e⟩
 | inst a b c d e f=>exact ⟨_,_,_,_,rfl,a,b,c,d,e,f⟩
 | loc a i=>exact rfl
 | exc a b c d e=>exact ⟨_,_,rfl,a,b,c,d,e⟩
 | range a b=>exact ⟨_,_,_,_,rfl,a,b⟩
 | cls c=>exact rfl
 | nums a b c d e=>exact ⟨_,_,_,_,rfl,a,b,c,d,e⟩
noncomputable def RepLV(cv:Nat->Value)(h:Heap)(D:Addr->Prop)(l:List AV)(vs:List Value):Prop:=match l with
 | []=>vs=[]
 | x::l=>∃v r,vs=v::r/\Rep cv h D x v/\RepL cv h D l r
theorem RepL.inv{h:Heap}{D:Addr->Prop}{l:List AV}{vs:List Value}(r:RepL cv h D l vs):RepLV cv h D l vs:=by
 induction r using RepL.casesOn with
 | nil=>exact rfl
 | cons a b=>exact ⟨_,_,rfl,a,b⟩
noncomputable def RepDV(cv:Nat->Value)(h:Heap)(D:Addr->Prop)(l:List (Af×AV))(es:List aO):Prop:=match l with
 | []=>es=[]
 | p::l=>∃t tx ty n v r,es=⟨A8 p.1,.ref t,v⟩::r/\h.get? t=some (Br #[.int p.1.1 tx,.int p.1.2 ty] n)/\¬D t/\Rep cv h D p.2 v/\RepD cv h D l r
theorem RepD.inv{h:Heap}{D:Addr->Prop}{l:List (Af×AV)}{es:List aO}(r:RepD cv h D l es):RepDV cv h D l es:=by
 induction r using RepD.casesOn with
 | nil=>exact rfl
 | cons a b c d=>exact ⟨_,_,_,_,_,_,rfl,a,b,c,d⟩
noncomputable def RepFV(cv:Nat->Value)(h:Heap)(D:Addr->Prop)(l:List (Str×AV))(es:List aO):Prop:=match l with
 | []=>es=[]
 | p::l=>∃hsh t v r,es=⟨hsh,.str p.1 t,v⟩::r/\Rep cv h D p.2 v/\RepF cv h D l r
theorem RepF.inv{h:Heap}{D:Addr->Prop}{l:List (Str×AV)}{es:List aO}(r:RepF cv h D l es):RepFV cv h D l es:=by
 induction r using RepF.casesOn with
 | nil=>exact rfl
 | cons a b=>exact ⟨_,_,_,_,rfl,a,b⟩
noncomputable def Dd(o:Obj):Prop:=(∃T,o.cls=.type T/\T ≠ "frame"/\T ≠ "range")/\∃vs,o.data=.fields vs
theorem CF{o:Obj}(hd:∀vs,o.data≠.fields vs):¬Dd o:=fun q=>q.2.elim hd
theorem B7{vs:Array Value}{n:Nat}:¬Dd (Br vs n):=CF fun Z h=>by cases h
theorem HI{vs:Array Value}{n:Nat}:¬Dd (AB vs n):=CF fun Z h=>by cases h
theorem Dw{vs:Array aO}{n:Nat}:¬Dd (AP vs n):=CF fun Z h=>by cases h
theorem HJ{C:Value}{dx:Addr}:¬Dd (Dg C dx):=CF fun Z h=>by cases h
theorem HG{a b c:Int}{t u v:Tok}:¬Dd (Hm a b c t u v):=fun q=>by
 obtain ⟨⟨T,hT,_,hn⟩,_⟩:=q;exact hn (Value.type.inj hT).symm
theorem HK{o:Obj}{v:Value}(c:o.cls=v)(n:∃C,v=.ref C):¬Dd o:=fun q=>by
 obtain ⟨⟨T,hT,_⟩,_⟩:=q;refine X1p n fun C hC=>?_;rw [hT,hC] at c;cases c
theorem HH{o:Obj}{vs:Array Value}{n:Nat}(f:o.data=.seq vs n):¬Dd o:=CF fun Z h=>by rw [f] at h;cases h
section
variable {D D':Addr->Prop}{h h':Heap}(k:∀b o,h.get? b=some o->¬Dd o->¬D b->h'.get? b=some o/\¬D' b)
include k
theorem Rep.turn{av:AV}{v:Value}(r:Rep cv h D av v):Rep cv h' D' av v :=
 Rep.rec (motive_1:=fun a v Z=>Rep cv h' D' a v) (motive_2:=fun l vs Z=>RepL cv h' D' l vs) (motive_3:=fun l es Z=>RepD cv h' D' l es) (motive_4:=fun l es Z=>RepF cv h' D' l es)
  .none .bool .int .str (fun e d Z r=>.tup (k _ _ e B7 d).1 (k _ _ e B7 d).2 r) (fun e d Z r=>.list (k _ _ e HI d).1 (k _ _ e HI d).2 r) (fun e d sm n Z r=>.dict (k _ _ e Dw d).1 (k _ _ e Dw d).2 sm n r)
  (fun e nf f d d₂ Z r=>.inst (k _ _ e HJ d).1 nf (k _ _ f Dw d₂).1 (k _ _ e HJ d).2 (k _ _ f Dw d₂).2 r) .loc (fun e c f d n=>.exc (k _ _ e (HK c n) d).1 c f (k _ _ e (HK c n) d).2 n)
  (fun e d=>.range (k _ _ e HG d).1 (k _ _ e HG d).2) .cls (fun e c f d r=>.nums (k _ _ e (HH f) d).1 c f (k _ _ e (HH f) d).2 r)
  .nil (fun Z Z r rs=>.cons r rs) .nil (fun e d Z Z r rs=>.cons (k _ _ e B7 d).1 (k _ _ e B7 d).2 r rs) .nil (fun Z Z r rs=>.cons r rs) r
theorem RepL.turn{av:List AV}{v:List Value}(r:RepL cv h D av v):RepL cv h' D' av v:=by
 induction av generalizing v with
 | nil=>rw [show v=[] from r.inv];exact .nil
 | cons x l ih=>refine X2ppp r.inv fun u us e a b=>?_;rw [e];exact .cons (a.turn k) (ih b)
theorem RepD.turn{av:List (Af×AV)}{v:List aO}(r:RepD cv h D av v):RepD cv h' D' av v:=by
 induction av generalizing v with
 | nil=>rw [show v=[] from r.inv];exact .nil
 | cons x l ih=>refine X6ppppp r.inv fun t tx ty n u us e a b c d=>?_;rw [e];exact .cons (k _ _ a B7 b).1 (k _ _ a B7 b).2 (c.turn k) (ih d)
theorem RepF.turn{av:List (Str×AV)}{v:List aO}(r:RepF cv h D av v):RepF cv h' D' av v:=by
 induction av generalizing v with
 | nil=>rw [show v=[] from r.inv];exact .nil
 | cons x l ih=>refine X4ppp r.inv fun t u us rr e a b=>?_;rw [e];exact .cons (a.turn k) (ih b)
end
theorem Ext.turn{D D':Addr->Prop}{h h':Heap}(x:Ext D h h')(hD:∀b,D' b->D b\/h.get? b=aa)(b:Addr)(o:Obj)(e:h.get? b=some o)(Z:¬Dd o)(d:¬D b):h'.get? b=some o/\¬D' b :=
 ⟨x.obj b o e d,fun q=>(hD b q).elim d fun q=>Ak q e⟩
theorem Rep.ext{D D':Addr->Prop}{h h':Heap}(x:Ext D h h')(hD:∀b,D' b->D b\/h.get? b=aa){av:AV}{v:Value}(r:Rep cv h D av v):Rep cv h' D' av v:=r.turn (x.turn hD)
theorem RepL.ext{D D':Addr->Prop}{h h':Heap}(x:Ext D h h')(hD:∀b,D' b->D b\/h.get? b=aa){av:List AV}{v:List Value}(r:RepL cv h D av v):RepL cv h' D' av v:=r.turn (x.turn hD)
theorem RepD.ext{D D':Addr->Prop}{h h':Heap}(x:Ext D h h')(hD:∀b,D' b->D b\/h.get? b=aa){av:List (Af×AV)}{v:List aO}(r:RepD cv h D av v):RepD cv h' D' av v:=r.turn (x.turn hD)
theorem RepF.ext{D D':Addr->Prop}{h h':Heap}(x:Ext D h h')(hD:∀b,D' b->D b\/h.get? b=aa){av:List (Str×AV)}{v:List aO}(r:RepF cv h D av v):RepF cv h' D' av v:=r.turn (x.turn hD)
inductive RepO(cv:Nat->Value)(h:Heap)(D:Addr->Prop):AObj->Addr->Prop
 | list {l:List AV}{a:Addr}{vs:List Value}{n:Nat}:h.get? a=some (AB vs.toArray n)->RepL cv h D l vs->RepO cv h D (.list l) a
 | dict {l:List (Af×AV)}{a:Addr}{es:List aO}{n:Nat}:h.get? a=some (AP es.toArray n)->(a == cp)=false->(l.map (·.1)).Nodup->RepD cv h D l es->RepO cv h D (.dict l) a
 | inst {dx a:Addr}:h.get? a=some (Dg (cv BR) dx)->(∃C,cv BR=.ref C)->RepO cv h D (.inst dx) a
 | attrs {fs:List (Str×AV)}{a:Addr}{es:List aO}{n:Nat}:h.get? a=some (AP es.toArray n)->RepF cv h D fs es->RepO cv h D (.attrs fs) a
noncomputable def RepOV(cv:Nat->Value)(h:Heap)(D:Addr->Prop)(o:AObj)(a:Addr):Prop:=match o with
 | .list l=>∃vs n,h.get? a=some (AB (aA vs) n)/\RepL cv h D l vs
 | .dict l=>∃es n,h.get? a=some (AP (aA es) n)/\(a == cp)=false/\(l.map (·.1)).Nodup/\RepD cv h D l es
 | .inst dx=>h.get? a=some (Dg (cv BR) dx)/\(∃C,cv BR=.ref C)
 | .attrs fs=>∃es n,h.get? a=some (AP (aA es) n)/\RepF cv h D fs es
theorem RepO.inv{h:Heap}{D:Addr->Prop}{o:AObj}{a:Addr}(r:RepO cv h D o a):RepOV cv h D o a:=by
 induction r with
 | list a b=>exact ⟨_,_,a,b⟩
 | dict a b c d=>exact ⟨_,_,a,b,c,d⟩
 | inst a b=>exact ⟨a,b⟩
 | attrs a b=>exact ⟨_,_,a,b⟩
theorem RepO.there{h:Heap}{D:Addr->Prop}{o:AObj}{a:Addr}(r:RepO cv h D o a):∃ob,h.get? a=some ob/\ob.cls≠.type "frame":=by
 induction r with
 | list e _=>exact ⟨_,e,by show Value.type "list"≠.type "frame";decide⟩
 | dict e _ _ _=>exact ⟨_,e,by show Value.type "dict"≠.type "frame";decide⟩
 | inst e nf=>exact ⟨_,e,by refine X1p nf fun C q=>?_;show cv BR≠_;rw [q];exact nofun⟩
 | attrs e _=>exact ⟨_,e,by show Value.type "dict"≠.type "frame";decide⟩
structure Sta where
 prog:dw
 w:World
 cv:Nat->Value
 g:Heap
 K:W.Frag
 X:K.In g
 gens:Array GenState
 drawn:Drawn
 os:OsState
 mg:Str->Option Value
 mb:Str->Option Value
 ng:g.Ns bV mg
 nb:g.Ns builtinsNs mb
 lim:g.NoLimit
 sm:∃o,g.get? cp=some o
 hx:Option Addr
 hxo:∀x,hx=some x->∃o vs,g.get? x=some o/\o.data=.fields vs/\vs[2]?=some cH
theorem Ext.mono{D D':Addr->Prop}{h h':Heap}(x:Ext D h h')(k:∀a,D a->D' a):Ext D' h h':=⟨fun b o e d=>x.obj b o e fun q=>d (k b q)⟩
noncomputable def DN(N:Addr->Prop)(V:Store)(a:Addr):Prop:=Dom V a\/N a
noncomputable def Own(env:Env)(a:Addr):Prop:=a=env.locals\/∃x,env.cells.lookup x=some a
noncomputable abbrev LocAt(cv:Nat->Value)(h:Heap)(D:Addr->Prop)(mc cm:Str->Option Value)(cells:List (Str×Addr))(k:Option cC)(x:Str)(av:AV):Prop:=match k with
 | some .local=>∃v,mc x=some v/\Rep cv h D av v
 | some .cell | some .free=>∃v c,cells.lookup x=some c/\cm x=some v/\Rep cv h D av v
 | _=>True
theorem LocAt.map{h h':Heap}{D D':Addr->Prop}{mc cm Y z:Str->Option Value}{cells:List (Str×Addr)}{k:Option cC}{x:Str}{av:AV}(l:LocAt cv h D mc cm cells k x av)(r:∀{v},Rep cv h D av v->Rep cv h' D' av v)(h1:∀v,mc x=some v->Y x=some v)(h2:∀v,cm x=some v->z x=some v):LocAt cv h' D' Y z cells k x av:=by
 cases k with
 | none=>exact trivial
 | some k =>
  cases k with
  | «local»=>refine X1pp l fun v a b=>?_;exact ⟨v,h1 v a,r b⟩
  | cell=>refine X2ppp l fun v c a b d=>?_;exact ⟨v,c,a,h2 v b,r d⟩
  | free=>refine X2ppp l fun v c a b d=>?_;exact ⟨v,c,a,h2 v b,r d⟩
  | _=>exact trivial
inductive Loc(cv:Nat->Value)(g:Heap)(tb:List Nat)(env:Env)(m:Nat->Option AV)(N:Addr->Prop)(V:Store)(h:Heap):Prop
 | mk (mc cm:Str->Option Value) (ns:h.Ns env.locals mc) (cell:∀x c,env.cells.lookup x=some c->h.IsCell c (cm x)) (own:∀a,Own env a->¬Dom V a/\g.get? a=aa)
  (apart:∀x y c,env.cells.lookup x=some c->env.cells.lookup y=some c->x=y) (cl:∀x c,env.cells.lookup x=some c->c≠env.locals)
  (names:∀x i av,ixS tb x=some i->m i=some av->LocAt cv h (DN N V) mc cm env.cells (env.kindOf x) x av):Loc cv g tb env m N V h
structure Step(P O:Addr->Prop)(V:Store)(s:ae)(V':Store)(s':ae):Prop where
 ext:Ext (fun a=>Dom V a\/O a\/P a) s.heap s'.heap
 frm:∀b o,s.heap.get? b=some o->P b->¬O b->¬Dom V b->∃o',s'.heap.get? b=some o'/\o'.cls=o.cls/\o'.data=o.data/\o'.dict=o.dict
 dom:∀b,Dom V' b->Dom V b\/s.heap.get? b=aa
 there:∀b o,s.heap.get? b=some o->∃o',s'.heap.get? b=some o'
noncomputable abbrev noO:Addr->Prop:=fun Z=>False
theorem Step.there'{P O:Addr->Prop}{V V':Store}{s s':ae}(x:Step P O V s V' s'){b:Addr}{o:Obj}(e:s.heap.get? b=some o)(d:¬Dom V b)(ho:¬O b):∃o',s'.heap.get? b=some o'/\o'.cls=o.cls/\o'.data=o.data/\o'.dict=o.dict:=by
 by_cases f:P b
 ·exact x.frm b o e f ho d
 ·exact ⟨o,x.ext.obj b o e fun q=>q.elim d fun q=>q.elim ho f,rfl,rfl,rfl⟩
theorem Step.of_keeps{P O:Addr->Prop}{V V':Store}{s s':ae}(k:∀b o,s.heap.get? b=some o->s'.heap.get? b=some o)(d:∀b,Dom V' b->Dom V b\/s.heap.get? b=aa):Step P O V s V' s' :=
 ⟨Ext.of_keeps k,fun b o e Z Z Z=>⟨o,k b o e,rfl,rfl,rfl⟩,d,fun b o e=>⟨o,k b o e⟩⟩
theorem Step.of_but{P O:Addr->Prop}{V V':Store}{s s':ae}(k:∀b o,¬Dom V b->¬O b->s.heap.get? b=some o->s'.heap.get? b=some o)(d:∀b,Dom V' b->Dom V b\/s.heap.get? b=aa)
  (t:∀b o,s.heap.get? b=some o->∃o',s'.heap.get? b=some o'):Step P O V s V' s' :=
 ⟨Ext.of_but fun b o q e=>k b o (fun z=>q (.inl z)) (fun z=>q (.inr (.inl z))) e,fun b o e Z n dd=>⟨o,k b o dd n e,rfl,rfl,rfl⟩,d,t⟩
theorem Step.over{P O:Addr->Prop}{Ay V:Store}{AH s s':ae}(z:Step P O Ay AH V s)(k:∀a,(∃o,AH.heap.get? a=some o)->∀o,s.heap.get? a=some o->s'.heap.get? a=some o):Step P O Ay AH V s' :=
 ⟨⟨fun a o e d=>k a ⟨o,e⟩ o (z.ext.obj a o e d)⟩,fun a o e d f g=>by
  refine X1pp (z.frm a o e d f g) fun o' e' r=>?_;exact ⟨o',k a ⟨o,e⟩ o' e',r⟩,z.dom,fun a o e=>by
  refine X1p (z.there a o e) fun o' e'=>?_;exact ⟨o',k a ⟨o,e⟩ o' e'⟩⟩
theorem Step.refl(P O:Addr->Prop)(V:Store)(s:ae):Step P O V s V s:=Step.of_keeps (fun Z Z e=>e) fun Z h=>.inl h
theorem Step.toks(P O:Addr->Prop)(V:Store)(s:ae)(t:Nat):Step P O V s V { s with toks:=t }:=Step.of_keeps (fun Z Z e=>e) fun Z h=>.inl h
theorem Step.new{P O:Addr->Prop}{V Aa:Store}{s Ac:ae}(x:Step P O V s Aa Ac){b:Addr}(e:Ac.heap.get? b=aa):s.heap.get? b=aa:=by
 cases q:s.heap.get? b with
 | none=>rfl
 | some o=>refine X1p (x.there b o q) fun o' e'=>?_;rw [e] at e';cases e'
theorem Step.ndom{P O:Addr->Prop}{V Aa:Store}{s Ac:ae}(x:Step P O V s Aa Ac){b:Addr}{o:Obj}(e:s.heap.get? b=some o)(d:¬Dom V b):¬Dom Aa b:=fun q=>(x.dom b q).elim d fun z=>Ak z e
theorem Step.trans{P O:Addr->Prop}{V Aa Ab:Store}{s Ac Aj:ae}(x:Step P O V s Aa Ac)(y:Step P O Aa Ac Ab Aj):Step P O V s Ab Aj :=
 ⟨x.ext.trans y.ext fun b h=>h.elim (fun h=>(x.dom b h).imp .inl id) fun h=>.inl (.inr h),fun b o e n ho d=>by
   refine X1pppp (x.frm b o e n ho d) fun o' e' c' d' i'=>?_;refine X1pppp (y.frm b o' e' n ho (x.ndom e d)) fun T Y B z U=>?_;exact ⟨T,Y,B.trans c',z.trans d',U.trans i'⟩,
  fun b h=>(y.dom b h).elim (x.dom b) fun q=>.inr (x.new q),
  fun b o e=>by refine X1p (x.there b o e) fun o' e'=>?_;exact y.there b o' e'⟩
theorem Step.mono{P O O':Addr->Prop}{V Aa:Store}{s Ac:ae}(x:Step P O V s Aa Ac)(k:∀a,O a->O' a):Step P O' V s Aa Ac :=
 ⟨x.ext.mono fun a h=>h.imp id fun h=>h.imp (k a) id,fun b o e n ho d=>x.frm b o e n (fun q=>ho (k b q)) d,x.dom,x.there⟩
theorem Step.wide{P P' O:Addr->Prop}{V Aa:Store}{s Ac:ae}(x:Step P O V s Aa Ac)(k:∀a,P a->P' a):Step P' O V s Aa Ac :=
 ⟨x.ext.mono fun a h=>h.imp id fun h=>h.imp id (k a),fun b o e Z ho d=>x.there' e d ho,x.dom,x.there⟩
theorem Step.narrow{P P' O:Addr->Prop}{V Aa:Store}{s Ac:ae}(x:Step P' O V s Aa Ac)(k:∀a,P' a->P a\/s.heap.get? a=aa):Step P O V s Aa Ac :=
 ⟨⟨fun b o e d=>x.ext.obj b o e fun q=>q.elim (fun q=>d (.inl q)) fun q=>q.elim (fun q=>d (.inr (.inl q))) fun q=>(k b q).elim (fun q=>d (.inr (.inr q))) fun q=>Ak q e⟩,fun b o e Z ho d=>x.there' e d ho,x.dom,x.there⟩
theorem Step.out{P O:Addr->Prop}{V Aa Ab:Store}{s Ac Aj:ae}(x:Step P noO V s Aa Ac)(y:Step P O Aa Ac Ab Aj)(hO:∀a,O a->s.heap.get? a=aa):Step P noO V s Ab Aj :=
 ⟨x.ext.trans y.ext fun b h=>h.elim (fun h=>(x.dom b h).imp .inl id) fun h=>h.elim (fun h=>.inr (hO b h)) fun h=>.inl (.inr (.inr h)),fun b o e n Z d=>by
   refine X1pppp (x.frm b o e n id d) fun o' e' c' d' i'=>?_;obtain ⟨T,Y,B,z,U⟩:=y.there' e' (x.ndom e d) fun q=>by rw [hO b q] at e;cases e
   exact ⟨T,Y,B.trans c',z.trans d',U.trans i'⟩,
  fun b h=>(y.dom b h).elim (x.dom b) fun q=>.inr (x.new q),
  fun b o e=>by refine X1p (x.there b o e) fun o' e'=>?_;exact y.there b o' e'⟩
theorem Rep.step{P O N:Addr->Prop}{V V':Store}{s s':ae}(x:Step P O V s V' s')(hO:∀a,O a->N a)(hP:∀a,P a->N a){av:AV}{v:Value}(r:Rep cv s.heap (DN N V) av v):Rep cv s'.heap (DN N V') av v :=
 r.ext (x.ext.mono fun a h=>h.imp id fun h=>h.elim (hO a) (hP a)) fun b h=>h.elim (fun h=>(x.dom b h).imp .inl id) fun h=>.inl (.inr h)
theorem RepL.step{P O N:Addr->Prop}{V V':Store}{s s':ae}(x:Step P O V s V' s')(hO:∀a,O a->N a)(hP:∀a,P a->N a){av:List AV}{v:List Value}(r:RepL cv s.heap (DN N V) av v):RepL cv s'.heap (DN N V') av v :=
 r.ext (x.ext.mono fun a h=>h.imp id fun h=>h.elim (hO a) (hP a)) fun b h=>h.elim (fun h=>(x.dom b h).imp .inl id) fun h=>.inl (.inr h)
theorem RepD.step{P O N:Addr->Prop}{V V':Store}{s s':ae}(x:Step P O V s V' s')(hO:∀a,O a->N a)(hP:∀a,P a->N a){av:List (Af×AV)}{v:List aO}(r:RepD cv s.heap (DN N V) av v):RepD cv s'.heap (DN N V') av v :=
 r.ext (x.ext.mono fun a h=>h.imp id fun h=>h.elim (hO a) (hP a)) fun b h=>h.elim (fun h=>(x.dom b h).imp .inl id) fun h=>.inl (.inr h)
theorem Rep.less{D D':Addr->Prop}{h:Heap}{av:AV}{v:Value}(r:Rep cv h D av v)(k:∀a,D' a->D a):Rep cv h D' av v:=r.ext (Ext.refl _ _) fun b h=>.inl (k b h)
theorem RepL.less{D D':Addr->Prop}{h:Heap}{av:List AV}{v:List Value}(r:RepL cv h D av v)(k:∀a,D' a->D a):RepL cv h D' av v:=r.ext (Ext.refl _ _) fun b h=>.inl (k b h)
structure Inv(S:Sta)(N:Addr->Prop)(V:Store)(s:ae):Prop where
 keep:∀b o,S.g.get? b=some o->s.heap.get? b=some o
 gens:s.gens=S.gens
 drawn:s.drawn=S.drawn
 os:s.os=S.os
 σg:∀a,Dom V a->S.g.get? a=aa
 σN:∀a,Dom V a->¬N a
 Nin:∀a,N a->∃o,s.heap.get? a=some o/\∀vs,o.data≠.fields vs
 rep:∀a o,V a=some o->RepO S.cv s.heap (DN N V) o a
structure St(S:Sta)(tb:List Nat)(env:Env)(N P:Addr->Prop)(b:Store×ae)(m:Nat->Option AV)(V:Store)(s:ae):Prop where
 inv:Inv S N V s
 loc:Loc S.cv S.g tb env m N V s.heap
 frm:Step P noO b.1 b.2 V s
 pN:∀a,P a->N a
 new:∀a,Own env a->b.2.heap.get? a=aa
 own:∀a,Own env a->N a
 gb:∀a,b.2.heap.get? a=aa->S.g.get? a=aa
end
section
noncomputable section
noncomputable abbrev Nms:=List (Str×cC)
structure IsV(tb:List Nat)(sc:Nms)(x:Str)(i:Nat):Prop where
 ok:okName x=true
 kind:sc.lookup x=some .local\/sc.lookup x=some .cell\/sc.lookup x=some .free
 ix:ixS tb x=some i
structure IsG(sc:Nms)(x:Str)(i:Nat):Prop where
 ok:okName x=true
 kind:sc.lookup x=some .globalImplicit
 ix:ixS GT x=some i
noncomputable def CO(C:ai->Prop)(pe:Option ai)(e:E):Prop:=(pe=aa/\e=.none)\/∃x,pe=some x/\C x
mutual
noncomputable def E.st:E->E
 | .tup es=>.tup (E.stL es)
 | .list es=>.list (E.stL es)
 | .dict ks vs=>.dict (E.stL ks) (E.stL vs)
 | .bin op l r=>.bin op l.st r.st
 | .neg x=>.neg x.st
 | .not x=>.not x.st
 | .and es=>.and (E.stL es)
 | .or es=>.or (E.stL es)
 | .cmp op l r=>.cmp op l.st r.st
 | .cmp2 o1 o2 a b c=>.cmp2 o1 o2 a.st b.st c.st
 | .ite c a b=>.ite c.st a.st b.st
 | .sub o i=>.sub o.st i.st
 | .slice o lo hi st=>.slice o.st lo hi st
 | .call f args=>.call f (E.stL args)
 | .sorted x f=>.sorted x.st f.st
 | .meth o n args=>.meth o.st n (E.stL args)
 | .comp elt x src cs=>.comp elt.st x src.st (E.stL cs)
 | .mu _ e=>e.st
 | e=>e
noncomputable def E.stL:List E->List E
 | []=>[]
 | e::r=>e.st::E.stL r
end
mutual
noncomputable def stS:Mine.Internal.S->Mine.Internal.S
 | .assign p e=>.assign p e.st
 | .setattr o n e=>.setattr o.st n e.st
 | .setitem o i e=>.setitem o.st i.st e.st
 | .expr e=>.expr e.st
 | .ret e=>.ret e.st
 | .ite c a b=>.ite c.st (Gw a) (Gw b)
 | .for_ p e body=>.for_ p e.st (Gw body)
 | .while_ c body=>.while_ c.st (Gw body)
 | .raise e=>.raise e.st
 | .try_ b c x h=>.try_ (Gw b) c.st x (Gw h)
 | .pass=>.pass
noncomputable def Gw:List Mine.Internal.S->List Mine.Internal.S
 | []=>[]
 | s::r=>stS s::Gw r
end
noncomputable def Bh:ai->Nat
 | .ListComp ..=>1
 | .SetComp ..=>1
 | .DictComp ..=>1
 | .Tuple ..=>2
 | .UnaryOp op _ _=>(match op with
  | .Not=>3
  | _=>0)
 | .BoolOp ..=>3
 | .Compare ..=>3
 | .IfExp ..=>3
 | _=>0
noncomputable def kd:E->Nat
 | .comp ..=>1
 | .tup ..=>2
 | .not ..=>3
 | .and ..=>3
 | .or ..=>3
 | .cmp ..=>3
 | .cmp2 ..=>3
 | .ite ..=>3
 | .mu _ e=>kd e
 | _=>0
mutual
noncomputable def CEb(tb:List Nat):Nms->ai->E->Prop
 | sc,pe,.none=>∃k p,pe=.Constant .none k p
 | sc,pe,.bool b=>∃k p,pe=.Constant (.bool b) k p
 | sc,pe,.int i=>∃k p,pe=.Constant (.int i) k p
 | sc,pe,.str s=>∃k p,pe=.Constant (.str s) k p
 | sc,pe,.v i=>∃x p,pe=.Name x p/\IsV tb sc x i
 | sc,pe,.g i=>∃x p,pe=.Name x p/\IsG sc x i
 | sc,pe,.tup es'=>∃es k p,pe=.Tuple es k p/\CEbs tb sc es es'
 | sc,pe,.list es'=>∃es p,pe=.List es p/\CEbs tb sc es es'
 | sc,pe,.dict ks' vs'=>∃ks vs p,pe=.Dict ks vs p/\CKbs tb sc ks ks'/\CEbs tb sc vs vs'
 | sc,pe,.bin op l' r'=>∃l r p,pe=.BinOp l op r p/\(Bh l=kd l'/\CEb tb sc l l')/\(Bh r=kd r'/\CEb tb sc r r')
 | sc,pe,.neg x'=>∃x p,pe=.UnaryOp .USub x p/\(Bh x=kd x'/\CEb tb sc x x')
 | sc,pe,.not x'=>∃x p,pe=.UnaryOp .Not x p/\(Bh x=kd x'/\CEb tb sc x x')
 | sc,pe,.and es'=>∃es p,pe=.BoolOp .And es p/\CEbs tb sc es es'
 | sc,pe,.or es'=>∃es p,pe=.BoolOp .Or es p/\CEbs tb sc es es'
 | sc,pe,.cmp op l' r'=>∃l r p,pe=.Compare l [op] [r] p/\Bb r=true/\(Bh l=kd l'/\CEb tb sc l l')/\(Bh r=kd r'/\CEb tb sc r r')
 | sc,pe,.cmp2 o1 o2 a' b' c'=>∃a b c p,pe=.Compare a [o1,o2] [b,c] p/\Bb b=true/\Bb c=true/\(Bh a=kd a'/\CEb tb sc a a')/\(Bh b=kd b'/\CEb tb sc b b')/\(Bh c=kd c'/\CEb tb sc c c')
 | sc,pe,.ite c' a' b'=>∃c a b p,pe=.IfExp c a b p/\(Bh c=kd c'/\CEb tb sc c c')/\(Bh a=kd a'/\CEb tb sc a a')/\(Bh b=kd b'/\CEb tb sc b b')
 | sc,pe,.slice o' lo' hi' st'=>∃o lo hi st p q,pe=.Subscript o (.Slice lo hi st q) p/\(Bh o=kd o'/\CEb tb sc o o')/\CO (fun x=>(Bh x=kd lo'/\CEb tb sc x lo')) lo lo'/\CO (fun x=>(Bh x=kd hi'/\CEb tb sc x hi')) hi hi'/\CO (fun x=>(Bh x=kd st'/\CEb tb sc x st')) st st'
 | sc,pe,.sub o' i'=>∃o i p,pe=.Subscript o i p/\BJ i=true/\(Bh o=kd o'/\CEb tb sc o o')/\(Bh i=kd i'/\CEb tb sc i i')
 | sc,pe,.attr (.v i) k=>∃x q a p,pe=.Attribute (.Name x q) a p/\IsV tb sc x i/\ixS AT a=some k
 | sc,pe,.attr _ _=>False
 | sc,pe,.meth o' k args'=>∃o a ap args p,pe=.Call (.Attribute o a ap) args [] p/\Ds o=true/\ap.endLine=p.line/\args.length<29/\(Bh o=kd o'/\CEb tb sc o o')/\ixS AT a=some k/\CEbs tb sc args args'
 | sc,pe,.call (.g i) args'=>∃x q args p,pe=.Call (.Name x q) args [] p/\args.length<29/\IsG sc x i/\CEbs tb sc args args'
 | sc,pe,.call _ _=>False
 | sc,pe,.sorted a' f'=>∃a f kp p q,∃x key:Str,pe=.Call (.Name x q) [a] [⟨some key,f,kp⟩] p/\x = "sorted"/\key = "key"/\sc.lookup x=some .globalImplicit/\Ba a=true/\(Bh a=kd a'/\CEb tb sc a a')/\(Bh f=kd f'/\CEb tb sc f f')
 | sc,pe,.comp elt' i src' cs'=>∃elt x xp src cs scope p,pe=.ListComp elt [⟨.Name x xp,src,cs,0⟩] scope p/\scope.kind=.function/\(scope.names.lookup x=some .local\/scope.names.lookup x=some .cell)/\Bb src=true /\
   okName x=true/\(∀q∈scope.names,DF tb sc x q=true/\scope.names.lookup q.1=some q.2)/\(Bh src=kd src'/\CEb tb sc src src')/\ixS tb x=some i/\CEbs tb (relab sc scope.names) cs cs'/\(Bh elt=kd elt'/\CEb tb (relab sc scope.names) elt elt')
 | _,_,.mu _ _=>False
noncomputable def CEbs(tb:List Nat):Nms->List ai->List E->Prop
 | _,pe,[]=>pe=[]
 | sc,pe,e'::r'=>∃e r,pe=e::r/\Ba e=true/\(Bh e=kd e'/\CEb tb sc e e')/\CEbs tb sc r r'
noncomputable def CKbs(tb:List Nat):Nms->List (Option ai)->List E->Prop
 | _,pe,[]=>pe=[]
 | sc,pe,e'::r'=>∃e r,pe=some e::r/\(Bh e=kd e'/\CEb tb sc e e')/\CKbs tb sc r r'
end
noncomputable def CEU(tb:List Nat)(sc:Nms)(pe:ai)(e:E):Prop:=Bh pe=kd e/\CEb tb sc pe e
theorem CEU.none{tb:List Nat}{sc k p} :CEU tb sc (.Constant .none k p) .none:=⟨rfl,_,_,rfl⟩
theorem CEU.bool{tb:List Nat}{sc b k p} :CEU tb sc (.Constant (.bool b) k p) (.bool b):=⟨rfl,_,_,rfl⟩
theorem CEU.int{tb:List Nat}{sc i k p} :CEU tb sc (.Constant (.int i) k p) (.int i):=⟨rfl,_,_,rfl⟩
theorem CEU.str{tb:List Nat}{sc s k p} :CEU tb sc (.Constant (.str s) k p) (.str s):=⟨rfl,_,_,rfl⟩
theorem CEU.v{tb:List Nat}{sc x p i}(a0:IsV tb sc x i):CEU tb sc (.Name x p) (.v i):=⟨rfl,_,_,rfl,a0⟩
theorem CEU.g{tb:List Nat}{sc x p i}(a0:IsG sc x i):CEU tb sc (.Name x p) (.g i):=⟨rfl,_,_,rfl,a0⟩
theorem CEU.tup{tb:List Nat}{sc es es' k p}(a0:CEbs tb sc es es'):CEU tb sc (.Tuple es k p) (.tup es'):=⟨rfl,_,_,_,rfl,a0⟩
theorem CEU.list{tb:List Nat}{sc es es' p}(a0:CEbs tb sc es es'):CEU tb sc (.List es p) (.list es'):=⟨rfl,_,_,rfl,a0⟩
theorem CEU.dict{tb:List Nat}{sc ks ks' vs vs' p}(a0:CKbs tb sc ks ks')(a1:CEbs tb sc vs vs'):CEU tb sc (.Dict ks vs p) (.dict ks' vs'):=⟨rfl,_,_,_,rfl,a0,a1⟩
theorem CEU.bin{tb:List Nat}{sc l l' op r r' p}(a0:CEU tb sc l l')(a1:CEU tb sc r r'):CEU tb sc (.BinOp l op r p) (.bin op l' r'):=⟨rfl,_,_,_,rfl,a0,a1⟩
theorem CEU.neg{tb:List Nat}{sc x x' p}(a0:CEU tb sc x x'):CEU tb sc (.UnaryOp .USub x p) (.neg x'):=⟨rfl,_,_,rfl,a0⟩
theorem CEU.not{tb:List Nat}{sc x x' p}(a0:CEU tb sc x x'):CEU tb sc (.UnaryOp .Not x p) (.not x'):=⟨rfl,_,_,rfl,a0⟩
theorem CEU.and{tb:List Nat}{sc es es' p}(a0:CEbs tb sc es es'):CEU tb sc (.BoolOp .And es p) (.and es'):=⟨rfl,_,_,rfl,a0⟩
theorem CEU.or{tb:List Nat}{sc es es' p}(a0:CEbs tb sc es es'):CEU tb sc (.BoolOp .Or es p) (.or es'):=⟨rfl,_,_,rfl,a0⟩
theorem CEU.cmp{tb:List Nat}{sc l l' op r r' p}(a0:Bb r=true)(a1:CEU tb sc l l')(a2:CEU tb sc r r'):CEU tb sc (.Compare l [op] [r] p) (.cmp op l' r'):=⟨rfl,_,_,_,rfl,a0,a1,a2⟩
theorem CEU.cmp2{tb:List Nat}{sc a a' o1 o2 b b' c c' p}(a0:Bb b=true)(a1:Bb c=true)(a2:CEU tb sc a a')(a3:CEU tb sc b b')(a4:CEU tb sc c c'):CEU tb sc (.Compare a [o1,o2] [b,c] p) (.cmp2 o1 o2 a' b' c'):=⟨rfl,_,_,_,_,rfl,a0,a1,a2,a3,a4⟩
theorem CEU.ite{tb:List Nat}{sc c c' a a' b b' p}(a0:CEU tb sc c c')(a1:CEU tb sc a a')(a2:CEU tb sc b b'):CEU tb sc (.IfExp c a b p) (.ite c' a' b'):=⟨rfl,_,_,_,_,rfl,a0,a1,a2⟩
theorem CEU.slice{tb:List Nat}{sc o o' lo lo' hi hi' st st' p q}(a0:CEU tb sc o o')(a1:CO (fun x=>CEU tb sc x lo') lo lo')(a2:CO (fun x=>CEU tb sc x hi') hi hi')(a3:CO (fun x=>CEU tb sc x st') st st'):CEU tb sc (.Subscript o (.Slice lo hi st q) p) (.slice o' lo' hi' st'):=⟨rfl,_,_,_,_,_,_,rfl,a0,a1,a2,a3⟩
theorem CEU.sub{tb:List Nat}{sc o o' i i' p}(a0:BJ i=true)(a1:CEU tb sc o o')(a2:CEU tb sc i i'):CEU tb sc (.Subscript o i p) (.sub o' i'):=⟨rfl,_,_,_,rfl,a0,a1,a2⟩
theorem CEU.attr{tb:List Nat}{sc x q a p i k}(a0:IsV tb sc x i)(a1:ixS AT a=some k):CEU tb sc (.Attribute (.Name x q) a p) (.attr (.v i) k):=⟨rfl,_,_,_,_,rfl,a0,a1⟩
theorem CEU.meth{tb:List Nat}{sc o o' a ap args args' p k}(a0:Ds o=true)(a1:ap.endLine=p.line)(a2:args.length<29)(a3:CEU tb sc o o')(a4:ixS AT a=some k)(a5:CEbs tb sc args args'):CEU tb sc (.Call (.Attribute o a ap) args [] p) (.meth o' k args'):=⟨rfl,_,_,_,_,_,rfl,a0,a1,a2,a3,a4,a5⟩
theorem CEU.callg{tb:List Nat}{sc x q args args' p i}(a0:args.length<29)(a1:IsG sc x i)(a2:CEbs tb sc args args'):CEU tb sc (.Call (.Name x q) args [] p) (.call (.g i) args'):=⟨rfl,_,_,_,_,rfl,a0,a1,a2⟩
theorem CEU.sorted{tb:List Nat}{sc a a' f f' kp p q}{x key:Str}(a0:x = "sorted")(a1:key = "key")(a2:sc.lookup x=some .globalImplicit)(a3:Ba a=true)(a4:CEU tb sc a a')(a5:CEU tb sc f f'):CEU tb sc (.Call (.Name x q) [a] [⟨some key,f,kp⟩] p) (.sorted a' f'):=⟨rfl,_,_,_,_,_,_,_,rfl,a0,a1,a2,a3,a4,a5⟩
theorem CEU.comp{tb:List Nat}{sc elt elt' x xp src src' cs cs' scope p i}(a0:scope.kind=.function)(a1:(scope.names.lookup x=some .local\/scope.names.lookup x=some .cell))(a2:Bb src=true)(a3:okName x=true)(a4:(∀q∈scope.names,DF tb sc x q=true/\scope.names.lookup q.1=some q.2))(a5:CEU tb sc src src')(a6:ixS tb x=some i)(a7:CEbs tb (relab sc scope.names) cs cs')(a8:CEU tb (relab sc scope.names) elt elt'):CEU tb sc (.ListComp elt [⟨.Name x xp,src,cs,0⟩] scope p) (.comp elt' i src' cs'):=⟨rfl,_,_,_,_,_,_,_,rfl,a0,a1,a2,a3,a4,a5,a6,a7,a8⟩
theorem CEbs.nil{tb:List Nat}{sc:Nms}:CEbs tb sc [] []:=rfl
theorem CEbs.cons{tb:List Nat}{sc e e' r r'}(a:Ba e=true)(b:CEU tb sc e e')(c:CEbs tb sc r r'):CEbs tb sc (e::r) (e'::r'):=⟨_,_,rfl,a,b,c⟩
theorem CKbs.nil{tb:List Nat}{sc:Nms}:CKbs tb sc [] []:=rfl
theorem CKbs.cons{tb:List Nat}{sc e e' r r'}(a:CEU tb sc e e')(b:CKbs tb sc r r'):CKbs tb sc (some e::r) (e'::r'):=⟨_,_,rfl,a,b⟩
theorem CO.no{C:ai->Prop}:CO C aa .none:=.inl ⟨rfl,rfl⟩
theorem CO.yes{C:ai->Prop}{e:ai}{e':E}(a:C e):CO C (some e) e':=.inr ⟨_,rfl,a⟩
noncomputable def CE(tb:List Nat)(sc:Nms)(pe:ai)(e:E):Prop:=CEU tb sc pe e.st
noncomputable def CEs(tb:List Nat)(sc:Nms)(pe:List ai)(es:List E):Prop:=CEbs tb sc pe (E.stL es)
noncomputable def CKs(tb:List Nat)(sc:Nms)(pe:List (Option ai))(es:List E):Prop:=CKbs tb sc pe (E.stL es)
theorem CEs.cons{tb:List Nat}{sc:Nms}{e:ai}{e':E}{r:List ai}{r':List E}(a:Ba e=true)(b:CE tb sc e e')(c:CEs tb sc r r'):CEs tb sc (e::r) (e'::r'):=⟨_,_,rfl,a,b,c⟩
mutual
noncomputable def CP(tb:List Nat)(sc:Nms):ai->Pat->Prop
 | pe,.v i=>∃x p,pe=.Name x p/\sc.lookup x≠some .free/\IsV tb sc x i
 | pe,.tup es'=>∃es k p,pe=.Tuple es k p/\CPs tb sc es es'
noncomputable def CPs(tb:List Nat)(sc:Nms):List ai->List Pat->Prop
 | pe,[]=>pe=[]
 | pe,e'::r'=>∃e r,pe=e::r/\Ba e=true/\CP tb sc e e'/\CPs tb sc r r'
end
theorem CP.v{tb:List Nat}{sc x p i}(a:sc.lookup x≠some .free)(b:IsV tb sc x i):CP tb sc (.Name x p) (.v i):=⟨_,_,rfl,a,b⟩
theorem CP.tup{tb:List Nat}{sc es es' k p}(a:CPs tb sc es es'):CP tb sc (.Tuple es k p) (.tup es'):=⟨_,_,_,rfl,a⟩
theorem CPs.nil{tb:List Nat}{sc:Nms}:CPs tb sc [] []:=rfl
theorem CPs.cons{tb:List Nat}{sc e e' r r'}(a:Ba e=true)(b:CP tb sc e e')(c:CPs tb sc r r'):CPs tb sc (e::r) (e'::r'):=⟨_,_,rfl,a,b,c⟩
mutual
noncomputable def CSb(tb:List Nat)(sc:Nms):dc->S->Prop
 | ps,.setitem o' i' e'=>∃o i e p q,ps=.Assign [.Subscript o i q] e p/\BJ i=true/\CEU tb sc o o'/\CEU tb sc i i'/\CEU tb sc e e'
 | ps,.setattr o' k e'=>∃o a e p q,ps=.Assign [.Attribute o a q] e p/\CEU tb sc o o'/\ixS AT a=some k/\CEU tb sc e e'
 | ps,.assign t' e'=>∃t e p,ps=.Assign [t] e p/\CP tb sc t t'/\CEU tb sc e e'
 | ps,.expr e'=>∃e p,ps=.Expr e p/\CEU tb sc e e'
 | ps,.ret e'=>∃e p,ps=.Return (some e) p/\CEU tb sc e e'
 | ps,.ite c' a' b'=>∃c a b p,ps=.If c a b p/\CEU tb sc c c'/\CSbs tb sc a a'/\CSbs tb sc b b'
 | ps,.for_ t' e' b'=>∃t e b p,ps=.For t e b [] p/\Bb e=true/\CP tb sc t t'/\CEU tb sc e e'/\CSbs tb sc b b'
 | ps,.while_ c' b'=>∃c b p,ps=.While c b [] p/\CEU tb sc c c'/\CSbs tb sc b b'
 | ps,.raise e'=>∃e p,ps=.Raise (some e) none p/\CEU tb sc e e'
 | ps,.try_ b' t' none h'=>∃b t h q p,ps=.Try b [.ExceptHandler (some t) none h q] [] [] p/\CSbs tb sc b b'/\CEU tb sc t t'/\CSbs tb sc h h'
 | ps,.try_ b' t' (some i) h'=>∃b t h q p x,ps=.Try b [.ExceptHandler (some t) (some x) h q] [] [] p/\CSbs tb sc b b'/\CEU tb sc t t'/\sc.lookup x≠some .free/\IsV tb sc x i/\CSbs tb sc h h'
 | ps,.pass=>∃p,ps=.Pass p
noncomputable def CSbs(tb:List Nat)(sc:Nms):List dc->List S->Prop
 | ps,[]=>ps=[]
 | ps,e'::r'=>∃e r,ps=e::r/\CSb tb sc e e'/\CSbs tb sc r r'
end
theorem CSb.setitem{tb:List Nat}{sc o o' i i' e e' p q}(a0:BJ i=true)(a1:CEU tb sc o o')(a2:CEU tb sc i i')(a3:CEU tb sc e e'):CSb tb sc (.Assign [.Subscript o i q] e p) (.setitem o' i' e'):=⟨_,_,_,_,_,rfl,a0,a1,a2,a3⟩
theorem CSb.setattr{tb:List Nat}{sc o o' a k e e' p q}(a0:CEU tb sc o o')(a1:ixS AT a=some k)(a2:CEU tb sc e e'):CSb tb sc (.Assign [.Attribute o a q] e p) (.setattr o' k e'):=⟨_,_,_,_,_,rfl,a0,a1,a2⟩
theorem CSb.assign{tb:List Nat}{sc t t' e e' p}(a0:CP tb sc t t')(a1:CEU tb sc e e'):CSb tb sc (.Assign [t] e p) (.assign t' e'):=⟨_,_,_,rfl,a0,a1⟩
theorem CSb.expr{tb:List Nat}{sc e e' p}(a0:CEU tb sc e e'):CSb tb sc (.Expr e p) (.expr e'):=⟨_,_,rfl,a0⟩
theorem CSb.ret{tb:List Nat}{sc e e' p}(a0:CEU tb sc e e'):CSb tb sc (.Return (some e) p) (.ret e'):=⟨_,_,rfl,a0⟩
theorem CSb.ite{tb:List Nat}{sc c c' a a' b b' p}(a0:CEU tb sc c c')(a1:CSbs tb sc a a')(a2:CSbs tb sc b b'):CSb tb sc (.If c a b p) (.ite c' a' b'):=⟨_,_,_,_,rfl,a0,a1,a2⟩
theorem CSb.for_{tb:List Nat}{sc t t' e e' b b' p}(a0:Bb e=true)(a1:CP tb sc t t')(a2:CEU tb sc e e')(a3:CSbs tb sc b b'):CSb tb sc (.For t e b [] p) (.for_ t' e' b'):=⟨_,_,_,_,rfl,a0,a1,a2,a3⟩
theorem CSb.while_{tb:List Nat}{sc c c' b b' p}(a0:CEU tb sc c c')(a1:CSbs tb sc b b'):CSb tb sc (.While c b [] p) (.while_ c' b'):=⟨_,_,_,rfl,a0,a1⟩
theorem CSb.raise{tb:List Nat}{sc e e' p}(a0:CEU tb sc e e'):CSb tb sc (.Raise (some e) none p) (.raise e'):=⟨_,_,rfl,a0⟩
theorem CSb.try0{tb:List Nat}{sc b b' t t' h h' q p}(a0:CSbs tb sc b b')(a1:CEU tb sc t t')(a2:CSbs tb sc h h'):CSb tb sc (.Try b [.ExceptHandler (some t) none h q] [] [] p) (.try_ b' t' none h'):=⟨_,_,_,_,_,rfl,a0,a1,a2⟩
theorem CSb.try1{tb:List Nat}{sc b b' t t' h h' q p x i}(a0:CSbs tb sc b b')(a1:CEU tb sc t t')(a2:sc.lookup x≠some .free)(a3:IsV tb sc x i)(a4:CSbs tb sc h h'):CSb tb sc (.Try b [.ExceptHandler (some t) (some x) h q] [] [] p) (.try_ b' t' (some i) h'):=⟨_,_,_,_,_,_,rfl,a0,a1,a2,a3,a4⟩
theorem CSb.pass{tb:List Nat}{sc p} :CSb tb sc (.Pass p) .pass:=⟨_,rfl⟩
theorem CSbs.nil{tb:List Nat}{sc:Nms}:CSbs tb sc [] []:=rfl
theorem CSbs.cons{tb:List Nat}{sc e e' r r'}(a:CSb tb sc e e')(b:CSbs tb sc r r'):CSbs tb sc (e::r) (e'::r'):=⟨_,_,rfl,a,b⟩
noncomputable def CS(tb:List Nat)(sc:Nms)(ps:dc)(s:S):Prop:=CSb tb sc ps (stS s)
noncomputable def CSs(tb:List Nat)(sc:Nms)(ps:List dc)(ss:List S):Prop:=CSbs tb sc ps (Gw ss)
theorem CE.inv{tb:List Nat}{sc:Nms}{pe:ai}{e:E}(h:CE tb sc pe e):CEb tb sc pe e.st:=h.2
theorem CEU.inv{tb:List Nat}{sc:Nms}{pe:ai}{e:E}(h:CEU tb sc pe e):CEb tb sc pe e:=h.2
theorem CEbs.inv{tb:List Nat}{sc:Nms}{pe:List ai}{es:List E}(h:CEbs tb sc pe es):CEbs tb sc pe es:=h
theorem CEbs.inv_nil{tb:List Nat}{sc:Nms}{pe:List ai}(h:CEbs tb sc pe []):pe=[]:=h
noncomputable def E.un:E->E
 | .mu _ e=>e
 | e=>e
theorem CE.un{tb:List Nat}{sc:Nms}{pe:ai}{e:E}(h:CE tb sc pe e):CE tb sc pe e.un:=by
 cases e<;>exact h
theorem CEs.inv_nil{tb:List Nat}{sc:Nms}{pe:List ai}(h:CEs tb sc pe []):pe=[]:=h
theorem CEs.inv{tb:List Nat}{sc:Nms}{pe:List ai}{e':E}{r':List E}(h:CEs tb sc pe (e'::r')):∃e r,pe=e::r/\Ba e=true/\CE tb sc e e'/\CEs tb sc r r':=h
theorem CKs.inv{tb:List Nat}{sc:Nms}{pe:List (Option ai)}{es:List E}(h:CKs tb sc pe es):CKbs tb sc pe (E.stL es):=h
theorem CO.inv{C:ai->Prop}{pe:Option ai}{e:E}(h:CO C pe e):(pe=aa/\e=.none)\/∃x,pe=some x/\C x:=h
theorem CP.inv{tb:List Nat}{sc:Nms}{pe:ai}{e:Pat}(h:CP tb sc pe e):CP tb sc pe e:=h
theorem CPs.inv_nil{tb:List Nat}{sc:Nms}{pe:List ai}(h:CPs tb sc pe []):pe=[]:=h
theorem CPs.inv{tb:List Nat}{sc:Nms}{pe:List ai}{e':Pat}{r':List Pat}(h:CPs tb sc pe (e'::r')):∃e r,pe=e::r/\Ba e=true/\CP tb sc e e'/\CPs tb sc r r':=h
theorem CS.inv{tb:List Nat}{sc:Nms}{ps:dc}{s:S}(h:CS tb sc ps s):CSb tb sc ps (stS s):=h
theorem CSs.inv_nil{tb:List Nat}{sc:Nms}{pe:List dc}(h:CSs tb sc pe []):pe=[]:=h
theorem CSs.inv{tb:List Nat}{sc:Nms}{pe:List dc}{e':S}{r':List S}(h:CSs tb sc pe (e'::r')):∃e r,pe=e::r/\CS tb sc e e'/\CSs tb sc r r':=h
noncomputable def LB(tb:List Nat)(sc:Nms)(x:Str):Option ((Σ' i,IsV tb sc x i) ⊕' (Σ' i,IsG sc x i)) :=
 if ok:okName x=true then match q:sc.lookup x with
 | some .local=>match e:ixS tb x with
  | some i=>some (.inl ⟨i,ok,.inl q,e⟩)
  | none=>none
 | some .cell=>match e:ixS tb x with
  | some i=>some (.inl ⟨i,ok,.inr (.inl q),e⟩)
  | none=>none
 | some .free=>match e:ixS tb x with
  | some i=>some (.inl ⟨i,ok,.inr (.inr q),e⟩)
  | none=>none
 | some .globalImplicit=>match e:ixS GT x with
  | some i=>some (.inr ⟨i,ok,q,e⟩)
  | none=>none
 | _=>none
 else none
noncomputable def cAt(a:Str):Option {k:Nat // ixS AT a=some k}:=match ixS AT a with
 | some k=>some ⟨k,rfl⟩
 | none=>none
noncomputable def cIx(tb:List Nat)(a:Str):Option {k:Nat // ixS tb a=some k}:=match ixS tb a with
 | some k=>some ⟨k,rfl⟩
 | none=>none
noncomputable def okScope(tb:List Nat)(sc:Nms)(x:Str)(src:ai)(scope:Scope):Bool:=scope.kind == .function && ((scope.names.lookup x == some .local || scope.names.lookup x == some .cell) && (Bb src && (okName x && scope.names.all fun p=>DF tb sc x p && scope.names.lookup p.1 == some p.2)))
theorem okScope.of{tb:List Nat}{sc:Nms}{x:Str}{B:ai}{scope:Scope}(h:okScope tb sc x B scope=true):scope.kind=.function/\(scope.names.lookup x=some .local\/scope.names.lookup x=some .cell)/\Bb B=true/\okName x=true/\(∀q∈scope.names,DF tb sc x q=true/\scope.names.lookup q.1=some q.2):=by
 simp only [okScope,bE,beq_iff_eq,dZ,cA] at h;exact h
noncomputable abbrev RE(tb:List Nat):=((sc:Nms)->(pe:ai)->Option {e:E // CEU tb sc pe e})×((sc:Nms)->(pe:List ai)->Option {e:List E // CEbs tb sc pe e})×((sc:Nms)->(pe:List (Option ai))->Option {e:List E // CKbs tb sc pe e})×((sc:Nms)->(pe:Option ai)->Option {e:E // CO (fun x=>CEU tb sc x e) pe e})
noncomputable def rE1(tb:List Nat)(rr:RE tb)(sc:Nms)(pe:ai):Option {e:E // CEU tb sc pe e}:=match pe with
  | .Constant c _ _=>(match c with
   | .none=>some ⟨.none,.none⟩
   | .bool b=>some ⟨.bool b,.bool⟩
   | .int i=>some ⟨.int i,.int⟩
   | .str s=>some ⟨.str s,.str⟩
   | _=>none)
  | .Name x _=>(match LB tb sc x with
   | some (.inl i)=>some ⟨.v i.1,.v i.2⟩
   | some (.inr i)=>some ⟨.g i.1,.g i.2⟩
   | none=>none)
  | .Tuple es _ _=>(rr.2.1 sc es).map fun a=>⟨.tup a.1,.tup a.2⟩
  | .List es _=>(rr.2.1 sc es).map fun a=>⟨.list a.1,.list a.2⟩
  | .Dict ks vs _=>(rr.2.2.1 sc ks).bind fun a=>(rr.2.1 sc vs).map fun b=>⟨.dict a.1 b.1,.dict a.2 b.2⟩
  | .BinOp l op r _=>(rr.1 sc l).bind fun a=>(rr.1 sc r).map fun b=>⟨.bin op a.1 b.1,.bin a.2 b.2⟩
  | .UnaryOp op x _=>(match op with
   | .USub=>(rr.1 sc x).map fun a=>⟨.neg a.1,.neg a.2⟩
   | .Not=>(rr.1 sc x).map fun a=>⟨.not a.1,.not a.2⟩
   | _=>none)
  | .BoolOp op es _=>(match op with
   | .And=>(rr.2.1 sc es).map fun a=>⟨.and a.1,.and a.2⟩
   | .Or=>(rr.2.1 sc es).map fun a=>⟨.or a.1,.or a.2⟩)
  | .Compare l os rs _=>(match os,rs with
   | [op],[r]=>if q:Bb r=true then (rr.1 sc l).bind fun a=>(rr.1 sc r).map fun b=>⟨.cmp op a.1 b.1,.cmp q a.2 b.2⟩ else none
   | [o1,o2],[b,c]=>if q:Bb b=true then (if q':Bb c=true then (rr.1 sc l).bind fun x=>(rr.1 sc b).bind fun y=>(rr.1 sc c).map fun z=>⟨.cmp2 o1 o2 x.1 y.1 z.1,.cmp2 q q' x.2 y.2 z.2⟩ else none) else none
   | _,_=>none)
  | .IfExp c a b _=>(rr.1 sc c).bind fun x=>(rr.1 sc a).bind fun y=>(rr.1 sc b).map fun z=>⟨.ite x.1 y.1 z.1,.ite x.2 y.2 z.2⟩
  | .Subscript o i _=>(match i with
   | .Slice lo hi st _=>(rr.1 sc o).bind fun x=>(rr.2.2.2 sc lo).bind fun y=>(rr.2.2.2 sc hi).bind fun z=>(rr.2.2.2 sc st).map fun u=>⟨.slice x.1 y.1 z.1 u.1,.slice x.2 y.2 z.2 u.2⟩
   | i=>if q:BJ i=true then (rr.1 sc o).bind fun x=>(rr.1 sc i).map fun y=>⟨.sub x.1 y.1,.sub q x.2 y.2⟩ else none)
  | .Attribute o a _=>(match o with
   | .Name x _=>(match LB tb sc x with
    | some (.inl i)=>(cAt a).map fun k=>⟨.attr (.v i.1) k.1,.attr i.2 k.2⟩
    | _=>none)
   | _=>none)
  | .Call f args kw p=>(match f,kw with
   | .Attribute o a ap,[]=>if q:Ds o=true then (if q':ap.endLine=p.line then (if q'':args.length<29 then (rr.1 sc o).bind fun x=>(cAt a).bind fun k=>(rr.2.1 sc args).map fun y=>⟨.meth x.1 k.1 y.1,.meth q q' q'' x.2 k.2 y.2⟩ else none) else none) else none
   | .Name x _,[]=>if q:args.length<29 then (match LB tb sc x with
    | some (.inr i)=>(rr.2.1 sc args).map fun y=>⟨.call (.g i.1) y.1,.callg q i.2 y.2⟩
    | _=>none) else none
   | .Name x _,[⟨some k,g,_⟩]=>(match args with
    | [a]=>if q:x = "sorted"/\k = "key"/\sc.lookup x=some .globalImplicit/\Ba a=true then (rr.1 sc a).bind fun y=>(rr.1 sc g).map fun z=>⟨.sorted y.1 z.1,.sorted q.1 q.2.1 q.2.2.1 q.2.2.2 y.2 z.2⟩ else none
    | _=>none)
   | _,_=>none)
  | .ListComp elt gens scope _=>(match gens with
   | [⟨.Name x _,src,cs,0⟩]=>if q:okScope tb sc x src scope=true then
     (rr.1 sc src).bind fun y=>(cIx tb x).bind fun i=>(rr.2.1 (relab sc scope.names) cs).bind fun z=>(rr.1 (relab sc scope.names) elt).map fun u=>⟨.comp u.1 i.1 y.1 z.1,.comp (okScope.of q).1 (okScope.of q).2.1 (okScope.of q).2.2.1 (okScope.of q).2.2.2.1 (okScope.of q).2.2.2.2 y.2 i.2 z.2 u.2⟩
    else none
   | _=>none)
  | _=>none
noncomputable def rEs1(tb:List Nat)(rr:RE tb)(sc:Nms)(pe:List ai):Option {e:List E // CEbs tb sc pe e}:=match pe with
 | []=>some ⟨[],.nil⟩
 | e::r=>if q:Ba e=true then (rr.1 sc e).bind fun a=>(rr.2.1 sc r).map fun b=>⟨a.1::b.1,.cons q a.2 b.2⟩ else none
noncomputable def rKs1(tb:List Nat)(rr:RE tb)(sc:Nms)(pe:List (Option ai)):Option {e:List E // CKbs tb sc pe e}:=match pe with
 | []=>some ⟨[],.nil⟩
 | e::r=>(match e with
  | some e=>(rr.1 sc e).bind fun a=>(rr.2.2.1 sc r).map fun b=>⟨a.1::b.1,.cons a.2 b.2⟩
  | none=>none)
noncomputable def rO1(tb:List Nat)(rr:RE tb)(sc:Nms)(pe:Option ai):Option {e:E // CO (fun x=>CEU tb sc x e) pe e}:=match pe with
 | none=>some ⟨.none,.no⟩
 | some e=>(rr.1 sc e).map fun a=>⟨a.1,.yes a.2⟩
noncomputable def rE(tb:List Nat)(n:Nat):RE tb:=Nat.rec (motive:=fun Z=>RE tb) ⟨fun Z Z=>none,fun Z Z=>none,fun Z Z=>none,fun Z Z=>none⟩ (fun Z r=>⟨rE1 tb r,rEs1 tb r,rKs1 tb r,rO1 tb r⟩) n
noncomputable abbrev RP(tb:List Nat):=((sc:Nms)->(pe:ai)->Option {e:Pat // CP tb sc pe e})×((sc:Nms)->(pe:List ai)->Option {e:List Pat // CPs tb sc pe e})
noncomputable def rP1(tb:List Nat)(rr:RP tb)(sc:Nms)(pe:ai):Option {e:Pat // CP tb sc pe e}:=match pe with
  | .Name x _=>if q:sc.lookup x=some .free then none else (match LB tb sc x with
   | some (.inl i)=>some ⟨.v i.1,.v q i.2⟩
   | _=>none)
  | .Tuple es _ _=>(rr.2 sc es).map fun a=>⟨.tup a.1,.tup a.2⟩
  | _=>none
noncomputable def rPs1(tb:List Nat)(rr:RP tb)(sc:Nms)(pe:List ai):Option {e:List Pat // CPs tb sc pe e}:=match pe with
 | []=>some ⟨[],.nil⟩
 | e::r=>if q:Ba e=true then (rr.1 sc e).bind fun a=>(rr.2 sc r).map fun b=>⟨a.1::b.1,.cons q a.2 b.2⟩ else none
noncomputable def rP(tb:List Nat)(n:Nat):RP tb:=Nat.rec (motive:=fun Z=>RP tb) ⟨fun Z Z=>none,fun Z Z=>none⟩ (fun Z r=>⟨rP1 tb r,rPs1 tb r⟩) n
noncomputable abbrev RS(tb:List Nat):=((sc:Nms)->(ps:dc)->Option {s:S // CSb tb sc ps s})×((sc:Nms)->(ps:List dc)->Option {s:List S // CSbs tb sc ps s})
noncomputable def rS1(tb:List Nat)(n:Nat)(rr:RS tb)(sc:Nms)(ps:dc):Option {s:S // CSb tb sc ps s}:=match ps with
  | .Assign ts e _=>(match ts with
   | [t]=>(match t with
    | .Subscript o i _=>if q:BJ i=true then ((rE tb n).1 sc o).bind fun x=>((rE tb n).1 sc i).bind fun y=>((rE tb n).1 sc e).map fun z=>⟨.setitem x.1 y.1 z.1,.setitem q x.2 y.2 z.2⟩ else none
    | .Attribute o a _=>((rE tb n).1 sc o).bind fun x=>(cAt a).bind fun k=>((rE tb n).1 sc e).map fun z=>⟨.setattr x.1 k.1 z.1,.setattr x.2 k.2 z.2⟩
    | t=>((rP tb n).1 sc t).bind fun x=>((rE tb n).1 sc e).map fun z=>⟨.assign x.1 z.1,.assign x.2 z.2⟩)
   | _=>none)
  | .Expr e _=>((rE tb n).1 sc e).map fun a=>⟨.expr a.1,.expr a.2⟩
  | .Return (some e) _=>((rE tb n).1 sc e).map fun a=>⟨.ret a.1,.ret a.2⟩
  | .If c a b _=>((rE tb n).1 sc c).bind fun x=>(rr.2 sc a).bind fun y=>(rr.2 sc b).map fun z=>⟨.ite x.1 y.1 z.1,.ite x.2 y.2 z.2⟩
  | .For t e b [] _=>if q:Bb e=true then ((rP tb n).1 sc t).bind fun x=>((rE tb n).1 sc e).bind fun y=>(rr.2 sc b).map fun z=>⟨.for_ x.1 y.1 z.1,.for_ q x.2 y.2 z.2⟩ else none
  | .While c b [] _=>((rE tb n).1 sc c).bind fun x=>(rr.2 sc b).map fun y=>⟨.while_ x.1 y.1,.while_ x.2 y.2⟩
  | .Raise (some e) none _=>((rE tb n).1 sc e).map fun a=>⟨.raise a.1,.raise a.2⟩
  | .Try b [.ExceptHandler (some t) nm h _] [] [] _=>(rr.2 sc b).bind fun x=>((rE tb n).1 sc t).bind fun y=>(rr.2 sc h).bind fun z=>(match nm with
   | none=>some ⟨.try_ x.1 y.1 none z.1,.try0 x.2 y.2 z.2⟩
   | some v=>if q:sc.lookup v=some .free then none else (match LB tb sc v with
    | some (.inl i)=>some ⟨.try_ x.1 y.1 (some i.1) z.1,.try1 x.2 y.2 q i.2 z.2⟩
    | _=>none))
  | .Pass _=>some ⟨.pass,.pass⟩
  | _=>none
noncomputable def rSs1(tb:List Nat)(rr:RS tb)(sc:Nms)(ps:List dc):Option {s:List S // CSbs tb sc ps s}:=match ps with
 | []=>some ⟨[],.nil⟩
 | e::r=>(rr.1 sc e).bind fun a=>(rr.2 sc r).map fun b=>⟨a.1::b.1,.cons a.2 b.2⟩
noncomputable def rS(tb:List Nat)(n:Nat):RS tb:=Nat.rec (motive:=fun Z=>RS tb) ⟨fun Z Z=>none,fun Z Z=>none⟩ (fun n r=>⟨rS1 tb n r,rSs1 tb r⟩) n
noncomputable def cSs(tb:List Nat)(n:Nat):(sc:Nms)->(ps:List dc)->Option {s:List S // CSbs tb sc ps s}:=(rS tb n).2
theorem LA{tb:List Nat}{n:Nat}{sc:Nms}{pe:List dc}{e:List S}(h:(cSs tb n sc pe).map (·.1)=some e):CSbs tb sc pe e:=by
 refine X1pr e (aY.mp h) fun x Z=>?_;exact x.2
end
end
section
section
variable {M:Model}{A:cz}{E:Value->ae->Prop}{s:ae}
end
end
section
theorem Fe:entryFor table "proto.unchain"=some dy.«proto.unchain»:=entryFor_of_tree (by kernel_rfl)
section
variable {prog:dw}{w:World}{A:cz}{E:Value->ae->Prop}{s:ae}
theorem IH{α:Type}{e x:Addr}{o oe:Obj}{vs ws:Array Value}{Q:α->ae->Prop}(hh:A.handled=some (.ref x))(ne:x≠e)(ho:s.heap.get? x=some o)(hd:o.data=.fields vs)(h2:vs[2]?=some .none)
  (he:s.heap.get? e=some oe) (Y:oe.data=.fields ws) (hz:2<ws.size) (h:E (.ref e) { s with heap:=s.heap.update e (Obj.mapFields (·.setIfInBounds 2 (.ref x))) }):wpAny (model prog w) A (raiseNew (.ref e):Sem α) Q E s:=by
 unfold raiseNew;refine ac (wpAny_handled ?_);rw [hh];dsimp only;have q:(cE x != cE e)=true:=by simp [ne]
 rw [if_pos q];refine ac (bA (wpAny_runValue (fW Fe ?_)));unfold dy.«proto.unchain»;refine ac (eU ho hd h2 ?_);rw [if_pos (show ((cH == cH)=true) from by decide)]
 refine ac (ag (ag ?_));unfold updateField;refine ac (ac (wpAny_load he ?_));rw [Y];dsimp only;rw [if_pos hz];exact wpAny_update he (wpAny_throw h)
theorem JQ{it:Addr}{y left step:Int}{Q:Option Value->ae->Prop}{hx:Option Addr}(hh:A.handled=hx.map cE)(d:∀x,hx=some x->∃o vs,s.heap.get? x=some o/\o.data=.fields vs/\vs[2]?=some cH)
  (u:gJ s.heap it y left step) (Y:left<=0) (hQ:∀h',di it s.heap h'->Q aa { s with heap:=h' }):wpAny (model prog w) A (pyNext (.ref it)) Q E s:=by
 cases hx with
 | none=>exact wpAny_pyNext_range_end hh u Y hQ
 | some x =>
 refine X2ppp (d x rfl) fun o vs ho hd h2=>?_;have hT:s.TypeIs (.ref it) "range_iterator":=⟨_,u,rfl⟩;unfold pyNext
 refine ac (gQ (dJ (name:=bX "__next__") hT F.slot_range_iterator_next
  (cJ F.slot_range_iterator_next hT F.entry_range_iterator_next ?_ (F.args_range_iterator_next_1 _))))
 show wpAny _ _ (field (.ref it) 0 >>= _) _ _ s;refine ac (eU u rfl (x:=gt y) rfl ?_);show wpAny _ _ (field (.ref it) 1 >>= _) _ _ s;refine ac (eU u rfl (x:=gt left) rfl ?_);show wpAny _ _ (field (.ref it) 2 >>= _) _ _ s;refine ac (eU u rfl (x:=gt step) rfl ?_);show wpAny _ _ (if left<=0 then _ else _) _ _ s;rw [if_pos Y];refine ac (fA ?_);refine ac ?_;show wpAny _ _ (newExc (.type "StopIteration") [] >>= _) _ _ _;refine ac ?_;simp only [newExc,newTuple];refine ac (bY ?_ (by size_fits))
 refine ac (m:=gu _ _) (wpAny_of_eq (a:=cH) (by first | rfl | (simp only [gu];rfl)) ?_)
 refine bY ?_ (by size_fits)
 have lx:x<s.heap.objs.size:=bh ho;refine IH (x:=x) (o:=o) (vs:=vs) (hh:=hh) ?_ (ax _ (ax _ ho)) hd h2 (aF _ rfl) rfl (cq rfl) ?_
 ·rw [cG];exact bK (cL lx)
 refine ac (dK (T := "StopIteration") (b:=true) ⟨_,bL _ (aF _ rfl) rfl,rfl⟩ isSubtype_stop ?_);refine ag (hQ _ fun b ob ne e=>?_);have lb:b<s.heap.objs.size:=bh e;rw [Heap.get?_update_other _ _ (by rw [cG];exact e7 (cL lb))]
 exact ax _ (ax _ e)
end
end
section
open PySem PyProof.Rows
structure Room(S:Sta)(N:Addr->Prop)(k:Nat)(A:cz):Prop where
 hh:A.handled=S.hx.map cE
 fr:∃l,A.frames=some l/\∀e∈l,e.scope.kind≠.module/\∃L,e.frame=some L/\N L/\S.g.get? L=aa
 dp:A.depth+2 * k<900
 un:A.units+20 * k<9000
theorem Room.quiet{S:Sta}{N:Addr->Prop}{k:Nat}{A:cz}(r:Room S N k A)(hq:S.hx=aa):A.handled=aa:=r.hh.trans (by rw [hq];rfl)
theorem Room.wide{S:Sta}{N N':Addr->Prop}{k:Nat}{A:cz}(r:Room S N k A)(h:∀a,N a->N' a):Room S N' k A :=
 ⟨r.hh,(by refine X1pp r.fr fun l e q=>?_;exact ⟨l,e,fun ev he=>by refine Ao (q ev he) fun h1 Z0=>?_;refine X1ppp Z0 fun L h2 h3 h4=>?_;exact ⟨h1,L,h2,h L h3,h4⟩⟩),r.dp,r.un⟩
structure Fx(S:Sta) where
 A:cz
 tb:List Nat
 env:Env
 b:Store×ae
 N:Addr->Prop
 k:Nat
 room:Room S N k A
 fk:env.scope.kind=.function
 fg:env.globals=bV
 fb:env.builtins=builtinsNs
 fc:∀x,env.kindOf x=some .cell->∃c,env.cells.lookup x=some c
variable {S:Sta}
noncomputable def Frm(A:cz)(a:Addr):Prop:=∃l,A.frames=some l/\∃e∈l,e.frame=some a
noncomputable abbrev Fx.P(F:Fx S):Addr->Prop:=Frm F.A
noncomputable abbrev Fx.St(F:Fx S):=Mine.Internal.St S F.tb F.env F.N F.P F.b
noncomputable abbrev Fx.D(F:Fx S)(V:Store):Addr->Prop:=DN F.N V
noncomputable abbrev Fx.O(F:Fx S):Addr->Prop:=Own F.env
noncomputable abbrev Fx.sc(F:Fx S):Nms:=F.env.scope.names
inductive PW(F:Fx S)(m:Nat->Option AV)(V:Store)(s:ae){α:Type}(P:α->Store->ae->Prop)(a:α)(s':ae):Prop
 | mk (V':Store)(st:Step F.P F.O V s V' s')(h:F.St m V' s')(p:P a V' s'):PW F m V s P a s'
inductive PV(F:Fx S)(Q:AV->Store->Prop)(v:Value)(V':Store)(s':ae):Prop
 | mk (av:AV)(r:Rep S.cv s'.heap (F.D V') av v)(q:Q av V'):PV F Q v V' s'
inductive PVs(F:Fx S)(Q:List AV->Store->Prop)(vs:List Value)(V':Store)(s':ae):Prop
 | mk (avs:List AV)(r:RepL S.cv s'.heap (F.D V') avs vs)(q:Q avs V'):PVs F Q vs V' s'
noncomputable def W(F:Fx S)(m:Nat->Option AV)(V:Store)(s:ae){α:Type}(t:Sem α)(P:α->Store->ae->Prop)(X:Value->ae->Prop):Prop :=
 wpAny (model S.prog S.w) F.A t (PW F m V s P) X s
noncomputable abbrev VT(F:Fx S)(m:Nat->Option AV)(V:Store)(s:ae)(t:Sem Value)(Q:AV->Store->Prop)(X:Value->ae->Prop):Prop :=
 W F m V s t (PV F Q) X
section
variable {F:Fx S}{m:Nat->Option AV}{V:Store}{s:ae}{α β:Type}{X:Value->ae->Prop}
theorem W.mono{t:Sem α}{P P':α->Store->ae->Prop}(h:W F m V s t P X)(k:∀a V' s',Step F.P F.O V s V' s'->F.St m V' s'->P a V' s'->P' a V' s'):W F m V s t P' X :=
 aV h (fun a s' ⟨V',st,h1,h2⟩=>⟨V',st,h1,k a V' s' st h1 h2⟩) fun Z Z e=>e
theorem W.out{t:Sem α}{P:α->Store->ae->Prop}{Q:α->ae->Prop}(h:W F m V s t P X)(k:∀a V' s',Step F.P F.O V s V' s'->F.St m V' s'->P a V' s'->Q a s'):wpAny (model S.prog S.w) F.A t Q X s :=
 aV h (fun a s' ⟨V',st,h1,h2⟩=>k a V' s' st h1 h2) fun Z Z e=>e
theorem W.later{t:Sem α}{P:α->Store->ae->Prop}{Ay:Store}{AH:ae}(h:W F m V s t P X)(st:Step F.P F.O Ay AH V s):wpAny (model S.prog S.w) F.A t (PW F m Ay AH P) X s :=
 aV h (fun _ _ ⟨V',st',h1,h2⟩=>⟨V',st.trans st',h1,h2⟩) fun Z Z e=>e
end
noncomputable def ET(F:Fx S)(m:Nat->Option AV)(V:Store)(e:E)(Q:AV->Store->Prop)(X:Value->ae->Prop):Prop :=
 ∀pe,CE F.tb F.sc pe e->∀s,F.St m V s->VT F m V s (eval pe F.env) Q X
noncomputable def TT(F:Fx S)(m:Nat->Option AV)(V:Store)(e:E)(Q:Bool->Store->Prop)(X:Value->ae->Prop):Prop :=
 ∀pe,CE F.tb F.sc pe e->∀s,F.St m V s->W F m V s (isTrue pe F.env (eval pe F.env)) (fun b V' Z=>Q b V') X
noncomputable def EsT(F:Fx S)(m:Nat->Option AV)(V:Store)(es:List E)(Q:List AV->Store->Prop)(X:Value->ae->Prop):Prop :=
 ∀pes pos,CEs F.tb F.sc pes es->∀s,F.St m V s ->
  W F m V s (spliced (backTo pos (e8 pes F.env))) (PVs F Q) X
section
variable {tb:List Nat}{env:Env}{N P:Addr->Prop}{b:Store×ae}{m:Nat->Option AV}{V V':Store}{s s':ae}
theorem Inv.tok(x:Inv S N V s)(t:Nat):Inv S N V { s with toks:=t }:=⟨x.keep,x.gens,x.drawn,x.os,x.σg,x.σN,x.Nin,x.rep⟩
theorem St.tok(x:Mine.Internal.St S tb env N P b m V s)(t:Nat):Mine.Internal.St S tb env N P b m V { s with toks:=t }:=⟨x.inv.tok t,x.loc,⟨x.frm.ext,x.frm.frm,x.frm.dom,x.frm.there⟩,x.pN,x.new,x.own,x.gb⟩
theorem RepO.ext{cv:Nat->Value}{D D':Addr->Prop}{h h':Heap}(x:Ext D h h')(hD:∀b,D' b->D b\/h.get? b=aa){o:AObj}{a:Addr}(r:RepO cv h D o a)(k:∀ob,h.get? a=some ob->h'.get? a=some ob):RepO cv h' D' o a:=by
 induction r with
 | list e r=>exact .list (k _ e) (r.ext x hD)
 | dict e sm n r=>exact .dict (k _ e) sm n (r.ext x hD)
 | inst e n=>exact .inst (k _ e) n
 | attrs e r=>exact .attrs (k _ e) (r.ext x hD)
theorem Inv.dom_there(x:Inv S N V s){a:Addr}(d:Dom V a):∃ob,s.heap.get? a=some ob:=by
 cases e:V a with
 | none=>exact absurd e d
 | some o=>refine X1pp ((x.rep a o e).there) fun ob h Z=>?_;exact ⟨ob,h⟩
theorem Inv.not_dom(x:Inv S N V s){a:Addr}(e:s.heap.get? a=aa):¬Dom V a:=fun d=>by refine X1p (x.dom_there d) fun ob h=>?_;rw [e] at h;cases h
theorem Inv.not_D(x:Inv S N V s){a:Addr}(e:s.heap.get? a=aa):¬DN N V a:=fun d=>d.elim (x.not_dom e) fun d=>by refine X1pp (x.Nin a d) fun ob h Z=>?_;rw [e] at h;cases h
theorem Inv.not_g(x:Inv S N V s){a:Addr}(e:s.heap.get? a=aa):S.g.get? a=aa:=by
 cases q:S.g.get? a with
 | none=>rfl
 | some o=>have:=x.keep a o q;rw [e] at this;cases this
theorem Inv.not_sm(x:Inv S N V s){a:Addr}(e:s.heap.get? a=aa):(a == cp)=false:=by
 cases q:a == cp with
 | false=>rfl
 | true =>
  refine X1p S.sm fun o h=>?_
  have:=x.keep _ _ h
  rw [<- eq_of_beq q,e] at this;cases this
theorem Loc.step{P':Addr->Prop}{cv:Nat->Value}{g:Heap}(l:Loc cv g tb env m N V s.heap)(x:Step P' noO V s V' s')(hP:∀a,P' a->N a):Loc cv g tb env m N V' s'.heap:=by
 obtain ⟨mc,cm,n,c,o,ap,cl,r⟩:=l;have B:∀a,Own env a->∃ob,s.heap.get? a=some ob:=by
  intro a ha
  rcases ha with rfl | ⟨y,hy⟩
  ·refine X3pp n fun ob Z Z e Z=>?_;exact ⟨ob,e⟩
  ·refine X1pp (c y a hy) fun ob e Z=>?_;exact ⟨ob,e⟩
 have U:s'.heap.Ns env.locals mc:=by
  refine X3ppp n fun ob es ep e hd q=>?_;refine X1pppp (x.there' e (o _ (.inl rfl)).1 id) fun o' e' Z d' Z=>?_;exact ⟨o',es,ep,e',d'.trans hd,q⟩
 refine ⟨mc,cm,U,fun y cc hy=>?_,fun a ha=>⟨fun d=>?_,(o a ha).2⟩,ap,cl,fun y i av hi hm=>?_⟩
 ·refine X1pp (c y cc hy) fun ob e hd=>?_
  refine X1pppp (x.there' e (o _ (.inr ⟨y,hy⟩)).1 id) fun o' e' Z d' Z=>?_;exact ⟨o',e',d'.trans hd⟩
 ·rcases x.dom a d with q | q
  ·exact (o a ha).1 q
  ·refine X1p (B a ha) fun ob e=>?_;rw [q] at e;cases e
 ·exact LocAt.map (r y i av hi hm) (fun h2=>h2.step x (fun Z h=>h.elim) hP) (fun Z h1=>h1) (fun Z h1=>h1)
theorem Loc.weak{cv:Nat->Value}{g h:Heap}{m':Nat->Option AV}(l:Loc cv g tb env m N V h)(hm:∀i av,m' i=some av->m i=some av):Loc cv g tb env m' N V h:=by
 obtain ⟨mc,cm,n,c,o,ap,cl,r⟩:=l;exact ⟨mc,cm,n,c,o,ap,cl,fun x i av hi h=>r x i av hi (hm i av h)⟩
theorem St.to{P':Addr->Prop}(x:Mine.Internal.St S tb env N P b m V s)(st:Step P' noO V s V' s')(i:Inv S N V' s')(hP:∀a,P' a->P a):Mine.Internal.St S tb env N P b m V' s':=⟨i,x.loc.step st (fun a h=>x.pN a (hP a h)),x.frm.trans (st.wide hP),x.pN,x.new,x.own,x.gb⟩
theorem Inv.grow(x:Inv S N V s){h':Heap}(k:∀a o,s.heap.get? a=some o->h'.get? a=some o)(tk:Nat):Inv S N V { s with heap:=h',toks:=tk }/\Step noO noO V s V { s with heap:=h',toks:=tk }:=by
 have st:Step noO noO V s V { s with heap:=h',toks:=tk }:=Step.of_keeps k fun Z h=>.inl h
 exact ⟨⟨fun a o e=>k a o (x.keep a o e),x.gens,x.drawn,x.os,x.σg,x.σN,fun a h=>by refine X1pp (x.Nin a h) fun o e f=>?_;exact ⟨o,k a o e,f⟩,fun a o e=>(x.rep a o e).ext (Ext.of_keeps k) (fun Z h=>.inl h) (k a)⟩,st⟩
theorem St.grow(x:Mine.Internal.St S tb env N P b m V s){h':Heap}(k:∀a o,s.heap.get? a=some o->h'.get? a=some o)(tk:Nat):Mine.Internal.St S tb env N P b m V { s with heap:=h',toks:=tk }/\Step noO noO V s V { s with heap:=h',toks:=tk }:=by
 refine Ao (x.inv.grow k tk) fun i st=>?_;exact ⟨x.to st i (fun Z h=>h.elim),st⟩
theorem A1{a c:Addr}{o:AObj}(h:Dom (V.set a o) c):c=a\/Dom V c:=by
 by_cases e:c=a
 ·exact .inl e
 ·right;unfold Dom Store.set at h;rw [if_neg e] at h;exact h
theorem Inv.new(x:Inv S N V s){h':Heap}(k:∀a o,s.heap.get? a=some o->h'.get? a=some o)(tk:Nat){a:Addr}(ha:s.heap.get? a=aa){o:AObj}
  (r:RepO S.cv h' (DN N (V.set a o)) o a):Inv S N (V.set a o) { s with heap:=h',toks:=tk }/\Step noO noO V s (V.set a o) { s with heap:=h',toks:=tk }:=by
 have st:Step noO noO V s (V.set a o) { s with heap:=h',toks:=tk }:=Step.of_keeps k fun c h=>(A1 h).elim (fun q=>.inr (q▸ha)) .inl
 refine ⟨⟨fun a o e=>k a o (x.keep a o e),x.gens,x.drawn,x.os,fun c h=>(st.dom c h).elim (x.σg c) x.not_g,fun c h=>(A1 h).elim (fun q n=>?_) (x.σN c),fun a h=>?_,fun c oc e=>?_⟩,st⟩
 ·clear r st h;subst q;refine X1pp (x.Nin c n) fun ob e Z=>?_;rw [ha] at e;cases e
 ·refine X1pp (x.Nin a h) fun o e f=>?_;exact ⟨o,k a o e,f⟩
 ·by_cases q:c=a
  ·clear ha st;subst q;rw [Store.set_self] at e;cases e;exact r
  ·rw [Store.set_ne _ _ q] at e
   exact (x.rep c oc e).ext (Ext.of_keeps k) (fun d h=>h.elim (fun h=>(A1 h).elim (fun q=>.inr (q▸ha)) fun q=>.inl (.inl q)) fun h=>.inl (.inr h)) (k c)
theorem St.new'(x:Mine.Internal.St S tb env N P b m V s){h':Heap}(k:∀a o,s.heap.get? a=some o->h'.get? a=some o)(tk:Nat){a:Addr}(ha:s.heap.get? a=aa){o:AObj}
  (r:RepO S.cv h' (DN N (V.set a o)) o a):Mine.Internal.St S tb env N P b m (V.set a o) { s with heap:=h',toks:=tk }/\Step noO noO V s (V.set a o) { s with heap:=h',toks:=tk }:=by
 refine Ao (x.inv.new k tk ha r) fun i st=>?_;exact ⟨x.to st i (fun Z h=>h.elim),st⟩
theorem Inv.upd(x:Inv S N V s){h':Heap}{a:Addr}(da:Dom V a)(k:∀c o,c≠a->s.heap.get? c=some o->h'.get? c=some o)(tk:Nat){o:AObj}
  (r:RepO S.cv h' (DN N (V.set a o)) o a):Inv S N (V.set a o) { s with heap:=h',toks:=tk }/\Step noO noO V s (V.set a o) { s with heap:=h',toks:=tk }:=by
 have dd:∀c,Dom (V.set a o) c->Dom V c:=fun c h=>(A1 h).elim (fun q=>q▸da) id;have e0:Ext (DN N V) s.heap h':=Ext.of_but fun c oc d e=>k c oc (fun q=>d (q▸.inl da)) e;have st:Step noO noO V s (V.set a o) { s with heap:=h',toks:=tk }:=Step.of_but (fun c oc d Z e=>k c oc (fun q=>d (q▸da)) e) (fun c h=>.inl (dd c h)) (fun c oc e=>by
  by_cases q:c=a
  ·clear da k dd;subst q;refine X1pp r.there fun ob h Z=>?_;exact ⟨ob,h⟩
  ·exact ⟨oc,k c oc q e⟩)
 refine ⟨⟨fun c oc e=>k c oc (fun q=>?_) (x.keep c oc e),x.gens,x.drawn,x.os,fun c h=>x.σg c (dd c h),fun c h=>x.σN c (dd c h),fun c h=>?_,fun c oc e=>?_⟩,st⟩
 ·clear k r dd st;subst q;rw [x.σg c da] at e;cases e
 ·refine X1pp (x.Nin c h) fun o e f=>?_;exact ⟨o,k c o (fun q=>x.σN a da (q▸h)) e,f⟩
 ·by_cases q:c=a
  ·clear da k dd st;subst q;rw [Store.set_self] at e;cases e;exact r
  ·rw [Store.set_ne _ _ q] at e
   exact (x.rep c oc e).ext e0 (fun d h=>.inl (h.imp (dd d) id)) (k c · q)
theorem St.upd(x:Mine.Internal.St S tb env N P b m V s){h':Heap}{a:Addr}(da:Dom V a)(k:∀c o,c≠a->s.heap.get? c=some o->h'.get? c=some o)(tk:Nat){o:AObj}
  (r:RepO S.cv h' (DN N (V.set a o)) o a):Mine.Internal.St S tb env N P b m (V.set a o) { s with heap:=h',toks:=tk }/\Step noO noO V s (V.set a o) { s with heap:=h',toks:=tk }:=by
 refine Ao (x.inv.upd da k tk r) fun i st=>?_;exact ⟨x.to st i (fun Z h=>h.elim),st⟩
theorem Inv.drop(x:Inv S N V s)(h:∀a o,V' a=some o->V a=some o):Inv S N V' s/\Step noO noO V s V' s:=by
 have dd:∀a,Dom V' a->Dom V a:=fun a d=>by
  cases e:V' a with
  | none=>exact absurd e d
  | some o=>unfold Dom;rw [h a o e];simp
 have st:Step noO noO V s V' s:=Step.of_keeps (fun Z Z e=>e) fun a d=>.inl (dd a d);exact ⟨⟨x.keep,x.gens,x.drawn,x.os,fun a d=>x.σg a (dd a d),fun a d=>x.σN a (dd a d),x.Nin,fun a o e=>(x.rep a o (h a o e)).ext (Ext.refl _ _) (fun b h=>.inl (h.imp (dd b) id)) fun Z q=>q⟩,st⟩
theorem St.drop(x:Mine.Internal.St S tb env N P b m V s)(h:∀a o,V' a=some o->V a=some o):Mine.Internal.St S tb env N P b m V' s/\Step noO noO V s V' s:=by
 refine Ao (x.inv.drop h) fun i st=>?_;exact ⟨x.to st i (fun Z h=>h.elim),st⟩
theorem St.weak(x:Mine.Internal.St S tb env N P b m V s){m':Nat->Option AV}(h:∀i av,m' i=some av->m i=some av):Mine.Internal.St S tb env N P b m' V s:=⟨x.inv,x.loc.weak h,x.frm,x.pN,x.new,x.own,x.gb⟩
end
theorem Step.any{P O:Addr->Prop}{V V':Store}{s s':ae}(x:Step noO noO V s V' s'):Step P O V s V' s':=(x.mono fun Z h=>h.elim).wide fun Z h=>h.elim
noncomputable def Fresh(V:Store)(o:AObj)(fz:AV)(Q:AV->Store->Prop):Prop:=Q fz V\/∃i,∀a,¬Dom V a->Q (.loc a i) (V.set a o)
section
variable {F:Fx S}{m:Nat->Option AV}{V:Store}{X:Value->ae->Prop}{s:ae}{Q:AV->Store->Prop}
theorem Rep.st{V':Store}{s':ae}{av:AV}{v:Value}(r:Rep S.cv s.heap (F.D V) av v)(x:Step F.P F.O V s V' s')(h:F.St m V' s'):Rep S.cv s'.heap (F.D V') av v:=Mine.Internal.Rep.step x h.own h.pN r
theorem RepL.st{V':Store}{s':ae}{av:List AV}{v:List Value}(r:RepL S.cv s.heap (F.D V) av v)(x:Step F.P F.O V s V' s')(h:F.St m V' s'):RepL S.cv s'.heap (F.D V') av v:=Mine.Internal.RepL.step x h.own h.pN r
theorem now{v:Value}{av:AV}(hs:F.St m V s)(r:Rep S.cv s.heap (F.D V) av v)(q:Q av V) :
  PW F m V s (PV F Q) v s:=⟨V,Step.refl _ _ _ _,hs,av,r,q⟩
theorem Et{v:Value}{av:AV}(t:Nat)(hs:F.St m V s)(r:Rep S.cv s.heap (F.D V) av v)(q:Q av V) :
  PW F m V s (PV F Q) v { s with toks:=t }:=⟨V,Step.toks _ _ _ _ _,hs.tok t,av,r,q⟩
theorem JF{a:Addr}{o:AObj}{N:Addr->Prop}(ha:s.heap.get? a=aa):∀b,DN N (V.set a o) b->DN N V b\/s.heap.get? b=aa :=
 fun Z h=>h.elim (fun h=>(A1 h).elim (fun q=>.inr (q▸ha)) fun q=>.inl (.inl q)) fun h=>.inl (.inr h)
theorem BD{h':Heap}{tk:Nat}{a:Addr}{vs:List Value}{n:Nat}{l:List AV}(hs:F.St m V s)(k:∀b o,s.heap.get? b=some o->h'.get? b=some o)(ha:s.heap.get? a=aa)
  (e:h'.get? a=some (AB vs.toArray n)) (r:RepL S.cv s.heap (F.D V) l vs) (q:Fresh V (.list l) (.list l) Q) :
  PW F m V s (PV F Q) (.ref a) { s with heap:=h',toks:=tk }:=by
 rcases q with q | ⟨i,q⟩
 ·refine Ao (hs.grow k tk) fun h1 st=>?_
  exact ⟨V,st.any,h1,_,.list e (hs.inv.not_D ha) (r.st st.any h1),q⟩
 ·refine Ao (hs.new' k tk ha (o:=.list l) (.list e (r.ext (Ext.of_keeps k) (JF ha)))) fun h1 st=>?_
  exact ⟨_,st.any,h1,_,.loc a i,q a (hs.inv.not_dom ha)⟩
theorem C7{h':Heap}{tk:Nat}{a:Addr}{es:List aO}{n:Nat}{l:List (Af×AV)}(hs:F.St m V s)(k:∀b o,s.heap.get? b=some o->h'.get? b=some o)(ha:s.heap.get? a=aa)
  (e:h'.get? a=some (AP es.toArray n)) (nd:(l.map (·.1)).Nodup) (r:RepD S.cv s.heap (F.D V) l es) (q:Fresh V (.dict l) (.dict l) Q) :
  PW F m V s (PV F Q) (.ref a) { s with heap:=h',toks:=tk }:=by
 rcases q with q | ⟨i,q⟩
 ·refine Ao (hs.grow k tk) fun h1 st=>?_
  exact ⟨V,st.any,h1,_,.dict e (hs.inv.not_D ha) (hs.inv.not_sm ha) nd (r.step st.any h1.own h1.pN),q⟩
 ·refine Ao (hs.new' k tk ha (o:=.dict l) (.dict e (hs.inv.not_sm ha) nd (r.ext (Ext.of_keeps k) (JF ha)))) fun h1 st=>?_
  exact ⟨_,st.any,h1,_,.loc a i,q a (hs.inv.not_dom ha)⟩
theorem Ax(h:Heap):h.get? h.objs.size=aa:=by
 cases q:h.get? h.objs.size with
 | none=>rfl
 | some o=>exact absurd (bh q) (Nat.lt_irrefl _)
theorem Aw(h:Heap)(o:Obj):∀b ob,h.get? b=some ob->(h.push o).get? b=some ob:=fun Z Z e=>ax o e
theorem J8{h':Heap}{tk:Nat}{a:Addr}{vs:List Value}{n:Nat}{l:List AV}(hs:F.St m V s)(k:∀b o,s.heap.get? b=some o->h'.get? b=some o)(ha:s.heap.get? a=aa)
  (e:h'.get? a=some (Br vs.toArray n)) (r:RepL S.cv s.heap (F.D V) l vs) (q:Q (.tup l) V) :
  PW F m V s (PV F Q) (.ref a) { s with heap:=h',toks:=tk }:=by
 refine Ao (hs.grow k tk) fun h1 st=>?_;exact ⟨V,st.any,h1,_,.tup e (hs.inv.not_D ha) (r.st st.any h1),q⟩
end
end
section
open PySem PyProof.Rows
variable {S:Sta}
section
variable {F:Fx S}{m:Nat->Option AV}{V:Store}{X:Value->ae->Prop}{Q:AV->Store->Prop}
theorem ET.mono{e:E}{Q':AV->Store->Prop}(h:ET F m V e Q X)(k:∀a V,Q a V->Q' a V):ET F m V e Q' X :=
 fun pe hc s hs=>(h pe hc s hs).mono fun _ _ _ _ _ ⟨av,r,q⟩=>⟨av,r,k _ _ q⟩
theorem TT.mono{e:E}{Q Q':Bool->Store->Prop}(h:TT F m V e Q X)(k:∀a V,Q a V->Q' a V):TT F m V e Q' X :=
 fun pe hc s hs=>(h pe hc s hs).mono fun Z Z Z Z Z q=>k _ _ q
theorem ET.none(h:Q .none V):ET F m V .none Q X:=by
 intro pe hc s hs;refine X2l pe hc.inv fun Z Z=>?_;exact wpAny_Constant_none (now hs .none h)
theorem ET.bool{b:Bool}(h:Q (.bool b) V):ET F m V (.bool b) Q X:=by
 intro pe hc s hs;refine X2l pe hc.inv fun Z Z=>?_;exact wpAny_Constant_bool (now hs (.bool b) h)
theorem ET.int{i:Int}(h:Q (.int i) V):ET F m V (.int i) Q X:=by
 intro pe hc s hs;refine X2l pe hc.inv fun Z Z=>?_;exact wpAny_Constant_int (Et _ hs (.int i _) h)
theorem ET.str{x:Str}(h:Q (.str x) V):ET F m V (.str x) Q X:=by
 intro pe hc s hs;refine X2l pe hc.inv fun Z Z=>?_;exact wpAny_Constant_str (Et _ hs (.str x _) h)
theorem load_v{i:Nat}{x:Str}{av:AV}{s:ae}{Q':Value->ae->Prop}(hx:IsV F.tb F.sc x i)(hm:m i=some av)(hs:F.St m V s)(h:∀v,Rep S.cv s.heap (F.D V) av v->Q' v s)
: wpAny (model S.prog S.w) F.A (loadName F.env x) Q' X s:=by
 obtain ⟨mc,cm,n,c,_,ap,_,r⟩:=hs.loc
 have:=r x i av hx.ix hm
 have kd:F.env.kindOf x=F.sc.lookup x:=rfl
 rcases hx.kind with q | q | q
 ·rw [kd,q] at this
  refine X1pp this fun v h1 h2=>?_;exact wpAny_loadName_local F.fk (kd.trans q) n h1 (h v h2)
 ·rw [kd,q] at this
  refine X2ppp this fun v cc h0 h1 h2=>?_
  have:=c x cc h0
  rw [h1] at this;exact wpAny_loadName_cell F.fk (kd.trans q) h0 this (h v h2)
 ·rw [kd,q] at this
  refine X2ppp this fun v cc h0 h1 h2=>?_
  have:=c x cc h0
  rw [h1] at this;exact wpAny_loadName_free F.fk (kd.trans q) h0 this (h v h2) (J2 hx.ok)
theorem ET.v{i:Nat}{av:AV}(hm:m i=some av)(h:Q av V):ET F m V (.v i) Q X:=by
 intro pe hc s hs;refine X2lp pe hc.inv fun Z Z hx=>?_;exact wpAny_Name (load_v hx hm hs fun v r=>now hs r h) (A4 hx.ok)
structure Glob(S:Sta)(i:Nat)(v:Value):Prop where
 at_:∀x,ixS GT x=some i->S.mg x=some v\/(S.mg x=aa/\S.mb x=some v)
theorem Ew{A:cz}{i:Nat}{x:Str}{pos:Pos}{v:Value}{s:ae}{Q':Value->ae->Prop}(hx:IsG F.sc x i)(hg:Glob S i v)(hs:F.St m V s)(h:Q' v s):wpAny (model S.prog S.w) A (eval (.Name x pos) F.env) Q' X s:=by
 have ng:s.heap.Ns F.env.globals S.mg:=by rw [F.fg];exact S.ng.keeps hs.inv.keep
 have nb:s.heap.Ns F.env.builtins S.mb:=by rw [F.fb];exact S.nb.keeps hs.inv.keep
 rcases hg.at_ x hx.ix with q | ⟨q,q'⟩
 ·exact gv F.fk hx.kind (Calls.loadGlobal_global ng q h) (A4 hx.ok)
 ·exact gv F.fk hx.kind (Calls.loadGlobal_builtin ng q nb q' h) (A4 hx.ok)
theorem ET.g_int{i:Nat}{n:Int}{t:Tok}(hg:Glob S i (.int n t))(h:Q (.int n) V):ET F m V (.g i) Q X:=by
 intro pe hc s hs;refine X2lp pe hc.inv fun Z Z hx=>?_;exact Ew hx hg hs (now hs (.int n t) h)
theorem EsT.nil{Q:List AV->Store->Prop}(h:Q [] V):EsT F m V [] Q X:=by
 intro B pos hc s hs;obtain rfl:=hc.inv_nil;exact wpAny_items_nil ⟨V,Step.refl _ _ _ _,hs,[],.nil,h⟩
theorem AX{e:ai}{r:List ai}{env:Env}(h:Ba e=true):e8 (e::r) env=(false,eval e env)::e8 r env:=by
 cases e<;>first | rfl | cases h
theorem EsT.cons{e:E}{r:List E}{Q:List AV->Store->Prop}(h:ET F m V e (fun a Aa=>EsT F m Aa r (fun as Ab=>Q (a::as) Ab) X) X):EsT F m V (e::r) Q X:=by
 intro B pos hc s hs;refine X2lppp B hc.inv fun Z Z hn he hr=>?_;refine wpAny_items_cons ?_ (AX hn);refine (h _ he s hs).out ?_;intro va Aa Ac Ai Ad u;obtain ⟨a,ra,AO⟩:=u;refine (AO _ _ hr Ac Ad).out ?_;intro vs Ab Aj An Ah u;obtain ⟨as,rs,Bt⟩:=u;exact ⟨Ab,Ai.trans An,Ah,a::as,.cons (ra.st An Ah) rs,Bt⟩
theorem RepL.length{cv:Nat->Value}{h:Heap}{D:Addr->Prop}{l:List AV}{vs:List Value}(r:RepL cv h D l vs):vs.length=l.length:=by
 induction l generalizing vs with
 | nil=>rw [show vs=[] from r.inv];rfl
 | cons x l ih=>refine X2lpp vs r.inv fun v us Z b=>?_;exact congrArg e9 (ih b)
noncomputable abbrev big:Nat:=1000000
theorem A6{n:Nat}(h:n<=big):n<=fL:=by unfold big at h;rw [dR];exact lin [n] [] (.b V0 A3) [.b V0 Az] rfl h
theorem ET.tup{es:List E}(h:EsT F m V es (fun l V'=>l.length<=big/\Q (.tup l) V') X):ET F m V (.tup es) Q X:=by
 intro pe hc s hs;refine X3lp pe hc.inv fun Z Z Z he=>?_;refine wpAny_Tuple ((h _ _ he s hs).out ?_);intro vs Aa Ac Ai Ad u;obtain ⟨l,r,hz,q⟩:=u;refine ⟨A6 (by rw [r.length];exact hz),?_⟩
 obtain ⟨V',st,h2,r2⟩:=J8 (tk:=Ac.toks) Ad (Aw _ _) (Ax _) (aF _ rfl) r q;exact ⟨V',Ai.trans st,h2,r2⟩
theorem ET.list{es:List E}(h:EsT F m V es (fun l V'=>l.length<=big/\Fresh V' (.list l) (.list l) Q) X):ET F m V (.list es) Q X:=by
 intro pe hc s hs;refine X2lp pe hc.inv fun Z Z he=>?_;refine wpAny_List ((h _ _ he s hs).out ?_);intro vs Aa Ac Ai Ad u;obtain ⟨l,r,hz,q⟩:=u;refine ⟨A6 (by rw [r.length];exact hz),?_⟩
 obtain ⟨V',st,h2,r2⟩:=BD (tk:=Ac.toks) Ad (Aw _ _) (Ax _) (aF _ rfl) r q;exact ⟨V',Ai.trans st,h2,r2⟩
noncomputable def BT(F:Fx S)(m:Nat->Option AV)(V:Store)(op:hV)(a b:AV)(Q:AV->Store->Prop)(X:Value->ae->Prop):Prop :=
 ∀va vb s,F.St m V s->Rep S.cv s.heap (F.D V) a va->Rep S.cv s.heap (F.D V) b vb->VT F m V s (binaryOp op va vb) Q X
noncomputable def KT(F:Fx S)(m:Nat->Option AV)(V:Store)(op:CmpOp)(a b:AV)(Q:Bool->Store->Prop)(X:Value->ae->Prop):Prop :=
 ∀va vb s,F.St m V s->Rep S.cv s.heap (F.D V) a va->Rep S.cv s.heap (F.D V) b vb->W F m V s (compareOp op va vb) (fun v V' Z=>∃c,v=.bool c/\Q c V') X
theorem ET.bin{op:hV}{l r:E}(h:ET F m V l (fun a Aa=>ET F m Aa r (fun b Ab=>BT F m Ab op a b Q X) X) X):ET F m V (.bin op l r) Q X:=by
 intro pe hc s hs;refine X3lpp pe hc.inv fun Z Z Z hl hr=>?_;refine wpAny_BinOp ((h _ hl s hs).out ?_);intro va Aa Ac Ai Ad u;obtain ⟨a,ra,AO⟩:=u;refine (AO _ hr Ac Ad).out ?_;intro vb Ab Aj An Ah u;obtain ⟨b,rb,Bt⟩:=u;exact (Bt va vb Aj Ah (ra.st An Ah) rb).later (Ai.trans An)
theorem BT.add{a b:Int}(h:Q (.int (a+b)) V):BT F m V .Add (.int a) (.int b) Q X:=by
 intro va vb s hs ra rb;refine X1l va ra.inv fun Z=>?_;refine X1l vb rb.inv fun Z=>?_;exact add_int (Et _ hs (.int _ _) h)
theorem BT.sub{a b:Int}(h:Q (.int (a - b)) V):BT F m V .Sub (.int a) (.int b) Q X:=by
 intro va vb s hs ra rb;refine X1l va ra.inv fun Z=>?_;refine X1l vb rb.inv fun Z=>?_;exact sub_int (Et _ hs (.int _ _) h)
theorem BT.mul{a b:Int}(hm:IntMulOk a b)(h:Q (.int (a * b)) V):BT F m V .Mult (.int a) (.int b) Q X:=by
 intro va vb s hs ra rb;refine X1l va ra.inv fun Z=>?_;refine X1l vb rb.inv fun Z=>?_;exact mul_int (Et _ hs (.int _ _) h) hm
theorem BT.mod{a b:Int}(hb:b≠0)(h:Q (.int (a.fmod b)) V):BT F m V .Mod (.int a) (.int b) Q X:=by
 intro va vb s hs ra rb;refine X1l va ra.inv fun Z=>?_;refine X1l vb rb.inv fun Z=>?_;exact mod_int hb (Et _ hs (.int _ _) h)
theorem BT.div{a b:Int}(hb:b≠0)(U:b.natAbs<1073741824)(h:Q (.int (a.fdiv b)) V):BT F m V .FloorDiv (.int a) (.int b) Q X:=by
 intro va vb s hs ra rb;refine X1l va ra.inv fun Z=>?_;refine X1l vb rb.inv fun Z=>?_;exact floordiv_int hb (Et _ hs (.int _ _) h) (.inl (PyProof.noPylong_small U))
theorem BT.addStr{a b:Str}(hz:a.length+b.length<=big)(h:Q (.str (a++b)) V):BT F m V .Add (.str a) (.str b) Q X:=by
 intro va vb s hs ra rb;refine X1l va ra.inv fun Z=>?_;refine X1l vb rb.inv fun Z=>?_;exact add_str (fun t' tk=>Et tk hs (.str _ _) h) (A6 hz)
theorem BT.mulStr{a:Str}{n:Int}(U:MulOk a n)(h:Q (.str (dW a n)) V):BT F m V .Mult (.str a) (.int n) Q X:=by
 intro va vb s hs ra rb;refine X1l va ra.inv fun Z=>?_;refine X1l vb rb.inv fun Z=>?_;exact SB.mul U (fun t' tk=>Et tk hs (.str _ _) h)
end
end
section
open PySem PyProof.Rows
variable {S:Sta}
noncomputable def dl(V:Store):AV->Option (List AV)
 | .list l=>some l
 | .loc a _=>(V a).bind AObj.list?
 | _=>aa
noncomputable def dd(V:Store):AV->Option (List (Af×AV))
 | .dict l=>some l
 | .loc a _=>(V a).bind AObj.dict?
 | _=>aa
theorem dl_list(V:Store)(l:List AV):dl V (.list l)=some l:=rfl
theorem BE{V:Store}{a:Addr}{i:Nat}{l:List AV}(h:V a=some (.list l)):dl V (.loc a i)=some l:=by show (V a).bind _=_;rw [h];rfl
theorem BV{V:Store}{a:Addr}{i:Nat}{l:List (Af×AV)}(h:V a=some (.dict l)):dd V (.loc a i)=some l:=by show (V a).bind _=_;rw [h];rfl
section
variable {N:Addr->Prop}{V:Store}{s:ae}
theorem Rep.lst{a:AV}{v:Value}{l:List AV}(r:Rep S.cv s.heap (DN N V) a v)(hs:Inv S N V s)(h:dl V a=some l) :
  ∃ad vs n,v=.ref ad/\s.heap.get? ad=some (AB (aA vs) n)/\RepL S.cv s.heap (DN N V) l vs:=by
 cases a with
 | list l'=>refine X3pppp r.inv fun a b c e f Z r=>?_;exact ⟨a,b,c,e,f,ar h▸r⟩
 | loc ad ii =>
  refine X1pp (AG (show (V ad).bind AObj.list?=some l from h)) fun o e h=>?_
  obtain rfl:=AObj.list?_out h;refine X2pp ((hs.rep ad _ e).inv) fun vs n g q=>?_;exact ⟨ad,vs,n,r.inv,g,q⟩
 | _=>exact (Ak rfl h).elim
theorem Rep.dct{a:AV}{v:Value}{l:List (Af×AV)}(r:Rep S.cv s.heap (DN N V) a v)(hs:Inv S N V s)(h:dd V a=some l) :
  ∃ad es n,v=.ref ad/\s.heap.get? ad=some (AP (aA es) n)/\(ad == cp)=false/\(l.map (·.1)).Nodup/\RepD S.cv s.heap (DN N V) l es:=by
 cases a with
 | dict l'=>refine X3pppp r.inv fun a b c e f Z r=>?_;exact ⟨a,b,c,e,f,ar h▸r⟩
 | loc ad ii =>
  refine X1pp (AG (show (V ad).bind AObj.dict?=some l from h)) fun o e h=>?_
  obtain rfl:=AObj.dict?_out h;refine X2pp ((hs.rep ad _ e).inv) fun vs n g q=>?_;exact ⟨ad,vs,n,r.inv,g,q⟩
 | _=>exact (Ak rfl h).elim
end
mutual
noncomputable def Gm:AV->Option dX
 | .none=>some .none
 | .bool b=>some (.bool b)
 | .int i=>some (.int i)
 | .str s=>some (.str s)
 | .tup l=>(Dn l).map .tuple
 | .list l=>(Dn l).map .list
 | .dict _=>aa
 | .inst _=>aa
 | .loc _ _=>aa
 | .exc _=>aa
 | .range _ _ _=>aa
 | .nums _=>aa
 | .cls _=>aa
noncomputable def Dn:List AV->Option (List dX)
 | []=>some []
 | x::l=>(Gm x).bind fun d=>(Dn l).map fun ds=>d::ds
end
theorem E1{h:Heap}{v:Value}{d d':dX}(e:some d=some d')(r:∃as,Reads h v d as):∃as,Reads h v d' as:=ar e▸r
theorem JP{h:Heap}{ds:List dX}(e:some []=some ds):∃as,ReadsAll h [] ds as:=ar e▸⟨_,.nil⟩
theorem Rep.reads{cv:Nat->Value}{h:Heap}{D:Addr->Prop}{a:AV}{v:Value}(r:Rep cv h D a v):∀{d:dX},Gm a=some d->∃as,Reads h v d as :=
 Rep.rec (motive_1:=fun a v Z=>∀{d:dX},Gm a=some d->∃as,Reads h v d as) (motive_2:=fun l vs Z=>∀{ds:List dX},Dn l=some ds->∃as,ReadsAll h vs ds as) (motive_3:=fun Z Z Z=>True) (motive_4:=fun Z Z Z=>True)
  (fun e=>E1 e ⟨_,.none⟩) (fun b Z e=>E1 e ⟨_,.bool b⟩) (fun i t Z e=>E1 e ⟨_,.int i t⟩) (fun x t Z e=>E1 e ⟨_,.str x t⟩)
  (fun g Z Z ih Z e=>by
   refine X1pp (aY.mp e) fun ds e1 Z0=>?_;clear e;subst Z0;obtain ⟨as,q⟩:=ih e1;exact ⟨as,.tuple g rfl rfl q⟩)
  (fun g Z Z ih Z e=>by
   refine X1pp (aY.mp e) fun ds e1 Z1=>?_;clear e;subst Z1;obtain ⟨as,q⟩:=ih e1;exact ⟨_,.list g rfl rfl q⟩)
  (fun Z Z Z Z Z Z Z e=>(Ak rfl e).elim) (fun Z Z Z Z Z Z Z Z e=>(Ak rfl e).elim) (fun Z Z Z e=>(Ak rfl e).elim) (fun Z Z Z Z Z Z e=>(Ak rfl e).elim) (fun Z Z Z e=>(Ak rfl e).elim) (fun Z Z e=>(Ak rfl e).elim) (fun Z Z Z Z Z Z e=>(Ak rfl e).elim)
  (fun e=>JP e)
  (fun Z Z Y B Z e=>by
   refine X1pp (eV.mp e) fun d e1 e=>?_;refine X1pp (aY.mp e) fun ds e2 Z2=>?_;clear e;subst Z2;refine X1p (Y e1) fun as q=>?_;refine X1p (B e2) fun bs q'=>?_;exact ⟨_,.cons q q'⟩)
  trivial (fun Z Z Z Z Z Z=>trivial) trivial (fun Z Z Z Z=>trivial) r
theorem RepL.reads{cv:Nat->Value}{h:Heap}{D:Addr->Prop}{l:List AV}{vs:List Value}{ds:List dX}(r:RepL cv h D l vs)(e:Dn l=some ds):∃as,ReadsAll h vs ds as:=by
 induction l generalizing vs ds with
 | nil=>rw [show vs=[] from r.inv];exact JP e
 | cons x l ih =>
  refine X2lpp vs r.inv fun v us a b=>?_;refine X1pp (eV.mp e) fun d e1 e=>?_;refine X1pr ds (aY.mp e) fun ds e2=>?_;refine X1p (a.reads e1) fun as q=>?_;refine X1p (ih b e2) fun bs q'=>?_;exact ⟨_,.cons q q'⟩
noncomputable def BP(V:Store)(a:AV):Option dX:=match a with
 | .loc _ _=>(dl V a).bind fun l=>(Dn l).map .list
 | a=>Gm a
theorem Rep.readsS{N:Addr->Prop}{V:Store}{s:ae}{a:AV}{v:Value}{d:dX}(r:Rep S.cv s.heap (DN N V) a v)(hs:Inv S N V s)(h:BP V a=some d):∃as,Reads s.heap v d as:=by
 cases a with
 | loc ad ii =>
  simp only [BP,eV,aY] at h;refine X1pp h fun l h1 Z0=>?_;refine X1pr d Z0 fun ds h2=>?_;refine X3lpp v (r.lst hs h1) fun ad vs n e rl=>?_;refine X1p (rl.reads h2) fun as q=>?_;exact ⟨_,.list e rfl rfl (by simpa using q)⟩
 | _=>exact r.reads h
theorem RepL.app{cv:Nat->Value}{h:Heap}{D:Addr->Prop}{l k:List AV}{vs ws:List Value}(r1:RepL cv h D l vs)(r2:RepL cv h D k ws):RepL cv h D (l++k) (vs++ws):=by
 induction l generalizing vs with
 | nil=>rw [show vs=[] from r1.inv];exact r2
 | cons v l ih=>obtain ⟨u,us,rfl,a,b⟩:=r1.inv;exact .cons a (ih b)
section
variable {F:Fx S}{m:Nat->Option AV}{V:Store}{X:Value->ae->Prop}{Q:AV->Store->Prop}
theorem BT.addList{a b:AV}{l k:List AV}(ha:dl V a=some l)(hb:dl V b=some k)(hz:l.length+k.length<=big)(h:Fresh V (.list (l++k)) (.list (l++k)) Q):BT F m V .Add a b Q X:=by
 intro va vb s hs ra rb;refine X3lpp va (ra.lst hs.inv ha) fun ad vs n e rl=>?_;refine X3lpp vb (rb.lst hs.inv hb) fun bd ws n2 e2 rk=>?_;have y:vs.toArray.size+ws.toArray.size<=fL:=by
  have h1:=rl.length;have h2:=rk.length;simp only [aG];exact A6 (by exact lin [l.length,k.length,big,vs.length,ws.length] [] (.b (.A V3 V4) V2) [.b (.A V0 V1) V2,.d V3 V0,.d V4 V1] rfl hz h1 h2)
 refine concat_meets ⟨_,e,rfl⟩ ⟨_,e2,rfl⟩ noFill_list_add seq_list_add PySem.F.slot_list_add PySem.F.entry_list_add (PySem.F.args_list_add_2 _ _) (list_addW ad bd vs.toArray ws.toArray n n2 aa aa #[] #[] y) ⟨e,e2,?_⟩;have q:vs.toArray++ws.toArray=(vs++ws).toArray:=by simp
 rw [q];exact BD (tk:=s.toks) hs (Aw _ _) (Ax _) (aF _ rfl) (rl.app rk) h
theorem KT.intEq{a b:Int}{Q:Bool->Store->Prop}(h:Q (a == b) V):KT F m V .Eq (.int a) (.int b) Q X:=by
 intro va vb s hs ra rb;refine X1l va ra.inv fun Z=>?_;refine X1l vb rb.inv fun Z=>?_;exact eq_int ⟨V,Step.refl _ _ _ _,hs,_,rfl,h⟩
theorem KT.intNe{a b:Int}{Q:Bool->Store->Prop}(h:Q (a != b) V):KT F m V .NotEq (.int a) (.int b) Q X:=by
 intro va vb s hs ra rb;refine X1l va ra.inv fun Z=>?_;refine X1l vb rb.inv fun Z=>?_;exact ne_int ⟨V,Step.refl _ _ _ _,hs,_,rfl,h⟩
theorem KT.intLt{a b:Int}{Q:Bool->Store->Prop}(h:Q (decide (a<b)) V):KT F m V .Lt (.int a) (.int b) Q X:=by
 intro va vb s hs ra rb;refine X1l va ra.inv fun Z=>?_;refine X1l vb rb.inv fun Z=>?_;exact lt_int ⟨V,Step.refl _ _ _ _,hs,_,rfl,h⟩
theorem KT.intLe{a b:Int}{Q:Bool->Store->Prop}(h:Q (decide (a<=b)) V):KT F m V .LtE (.int a) (.int b) Q X:=by
 intro va vb s hs ra rb;refine X1l va ra.inv fun Z=>?_;refine X1l vb rb.inv fun Z=>?_;exact le_int ⟨V,Step.refl _ _ _ _,hs,_,rfl,h⟩
theorem KT.intGt{a b:Int}{Q:Bool->Store->Prop}(h:Q (decide (b<a)) V):KT F m V .Gt (.int a) (.int b) Q X:=by
 intro va vb s hs ra rb;refine X1l va ra.inv fun Z=>?_;refine X1l vb rb.inv fun Z=>?_;exact gt_int ⟨V,Step.refl _ _ _ _,hs,_,rfl,h⟩
theorem KT.eq{a b:AV}{da db:dX}{Q:Bool->Store->Prop}(ha:BP V a=some da)(hb:BP V b=some db)(sa:dE da=true)(sb:dE db=true)(h:Q (eN da db) V):KT F m V .Eq a b Q X:=by
 intro va vb s hs ra rb;refine X1p (ra.readsS hs.inv ha) fun as ra=>?_;refine X1p (rb.readsS hs.inv hb) fun bs rb=>?_;exact eq_dataH ra rb sa sb (by have:=F.room.un;unfold cLine;exact lin [F.A.units,F.k] [] (.c (.A V0 K64) Eh) [.c (.A V0 (.M 20 V1)) BG] rfl this) ⟨V,Step.refl _ _ _ _,hs,_,rfl,h⟩
theorem KT.ne{a b:AV}{da db:dX}{Q:Bool->Store->Prop}(ha:BP V a=some da)(hb:BP V b=some db)(sa:dE da=true)(sb:dE db=true)(h:Q (!PyData.eqv da db) V):KT F m V .NotEq a b Q X:=by
 intro va vb s hs ra rb;refine X1p (ra.readsS hs.inv ha) fun as ra=>?_;refine X1p (rb.readsS hs.inv hb) fun bs rb=>?_;exact ne_dataH ra rb sa sb (by have:=F.room.un;unfold cLine;exact lin [F.A.units,F.k] [] (.c (.A V0 K64) Eh) [.c (.A V0 (.M 20 V1)) BG] rfl this) ⟨V,Step.refl _ _ _ _,hs,_,rfl,h⟩
noncomputable def key(k:Af):List Int:=[k.1,k.2]
class inductive XsOf(cv:Nat->Value)(h:Heap)(D:Addr->Prop):List (Af×AV)->List (List Int×Addr×Value)->Prop
 | nil:XsOf cv h D [] []
 | cons {k:Af}{x:AV}{l:List (Af×AV)}{t:Addr}{tx ty:Tok}{n:Nat}{v:Value}{xs:List (List Int×Addr×Value)} :
   h.get? t=some (Br #[.int k.1 tx,.int k.2 ty] n)->¬D t->Rep cv h D x v->XsOf cv h D l xs->XsOf cv h D ((k,x)::l) ((key k,t,v)::xs)
theorem Ed{h:Heap}{k:Af}{t:Addr}{tx ty:Tok}{n:Nat}(e:h.get? t=some (Br #[.int k.1 tx,.int k.2 ty] n)):IsTupleKey (bP S.prog S.w) h (key k) t :=
 ⟨_,_,n,e,rfl,rfl,.cons (by simp [bP,Value.isInt]) (.cons (by simp [bP,Value.isInt]) .nil)⟩
theorem RepD.xs{cv:Nat->Value}{h:Heap}{D:Addr->Prop}{l:List (Af×AV)}{es:List aO}(r:RepD cv h D l es):∃xs,XsOf cv h D l xs/\es=xs.map (cX (bp (bP S.prog S.w))):=by
 induction l generalizing es with
 | nil=>exact ⟨[],.nil,r.inv⟩
 | cons p l ih =>
  refine X6lpppp es r.inv fun t tx ty n v r e d q rs=>?_;obtain ⟨xs,h1,h2⟩:=ih rs;exact ⟨_,.cons e d q h1,by rw [h2];rfl⟩
theorem XsOf.repD{cv:Nat->Value}{h:Heap}{D:Addr->Prop}{l:List (Af×AV)}{xs:List (List Int×Addr×Value)}(r:XsOf cv h D l xs):RepD cv h D l (xs.map (cX (bp (bP S.prog S.w)))):=by
 induction r with
 | nil=>exact .nil
 | cons e d r _ ih=>exact .cons e d r ih
theorem GP{a b:Af}(h:key a=key b):a=b:=by
 obtain ⟨a1,a2⟩:=a;obtain ⟨b1,b2⟩:=b;simp only [key,List.cons.injEq,and_true] at h;rw [h.1,h.2]
theorem XsOf.keys{cv:Nat->Value}{h:Heap}{D:Addr->Prop}{l:List (Af×AV)}{xs:List (List Int×Addr×Value)}(r:XsOf cv h D l xs):xs.map (·.1)=l.map fun p=>key p.1:=by
 induction r with
 | nil=>rfl
 | cons _ _ _ _ ih=>rw [bm,bm,ih]
theorem Eu{l:List (Af×AV)}(h:(l.map (·.1)).Nodup):(l.map fun p=>key p.1).Nodup:=by
 have:(l.map fun p=>key p.1)=(l.map (·.1)).map key:=by rw [bc];rfl
 rw [this];exact cM.mpr (h.imp fun d q=>d (GP q))
theorem XsOf.is{cv:Nat->Value}{h:Heap}{D:Addr->Prop}{l:List (Af×AV)}{xs:List (List Int×Addr×Value)}(r:XsOf cv h D l xs):∀x∈xs,(bp (bP S.prog S.w)).is h x.1 x.2.1:=by
 induction r with
 | nil=>exact fun Z hx=>absurd hx bn
 | cons e _ _ _ ih=>exact fun x hx=>(aD.mp hx).elim (fun q=>q▸Ed e) (ih x)
theorem Ee{cv:Nat->Value}{h:Heap}{D:Addr->Prop}{l:List (Af×AV)}{xs:List (List Int×Addr×Value)}{d:Addr}{n:Nat}(x:XsOf cv h D l xs)(nd:(l.map (·.1)).Nodup)
  (e:h.get? d=some (AP (xs.map (cX (bp (bP S.prog S.w)))).toArray n)):h.DictOfH (bp (bP S.prog S.w)) d xs :=
 ⟨_,_,n,e,⟨rfl,rfl,rfl⟩,rfl,by simp,x.is,by rw [x.keys];exact Eu nd⟩
noncomputable def Bq(l:List (Af×AV))(k:Af):Option AV:=(l.find? fun p=>decide (p.1=k)).map (·.2)
theorem XsOf.at_{cv:Nat->Value}{h:Heap}{D:Addr->Prop}(k:Af){l:List (Af×AV)}{xs:List (List Int×Addr×Value)}(r:XsOf cv h D l xs) :
  match Bq l k,atKey xs (key k) with
  | some av,some p=>Rep cv h D av p.2
  | aa,aa=>True
  | _,_=>False:=by
 induction r with
 | nil=>exact trivial
 | @cons k' x l t _ _ _ v xs e d r rs ih =>
  unfold Bq atKey at ih ⊢
  by_cases q:k'=k
  ·clear ih;subst q;simp only [dC,decide_true,cR];exact r
  ·have q':¬key k'=key k:=fun z=>q (GP z)
   simp only [dC,decide_eq_false q,decide_eq_false q'];exact ih
noncomputable abbrev sp(k:Af):AV:=.tup [.int k.1,.int k.2]
theorem Rep.spot{cv:Nat->Value}{h:Heap}{D:Addr->Prop}{k:Af}{v:Value}(r:Rep cv h D (sp k) v):∃t tx ty n,v=.ref t/\h.get? t=some (Br #[.int k.1 tx,.int k.2 ty] n)/\¬D t:=by
 obtain ⟨t,vs,n,rfl,e,d,r⟩:=r.inv;obtain ⟨v,us,rfl,r1,rr⟩:=r.inv;refine X2ppp rr.inv fun u ws Z0 r2 rz=>?_;clear r rr;subst Z0;obtain rfl:=rz.inv;refine X1p r1.inv fun tx Z1=>?_;clear r1 r;subst Z1;obtain ⟨ty,rfl⟩:=r2.inv;exact ⟨_,_,_,_,rfl,e,d⟩
theorem Bz(F:Fx S):(bp (bP S.prog S.w)).room F.A.in1:=by
 show F.A.in1.units<cLine
 have:=F.room.un;unfold cLine;simp;exact lin [F.A.units,F.k] [] (.c (.A V0 K1) Eh) [.c (.A V0 (.M 20 V1)) BG] rfl this
theorem room_0(F:Fx S):(bp (bP S.prog S.w)).room F.A:=by
 show F.A.units<cLine
 have:=F.room.un;unfold cLine;exact lin [F.A.units,F.k] [] (.c V0 Eh) [.c (.A V0 (.M 20 V1)) BG] rfl this
theorem KT.inDict{k:Af}{b:AV}{l:List (Af×AV)}{Q:Bool->Store->Prop}(hb:dd V b=some l)(h:Q (Bq l k).isSome V):KT F m V .In (sp k) b Q X:=by
 intro va vb s hs ra rb;refine X4lpp va ra.spot fun t tx ty n e d=>?_;refine X3lpppp vb (rb.dct hs.inv hb) fun ad es n' e' sm nd rd=>?_;refine X1pp (RepD.xs (S:=S) rd) fun xs hx Z0=>?_;clear rd;subst Z0;have q:=hx.at_ k;refine wpAny_in_heap (Bz F) (Ed e) sm (Ee hx nd e') ⟨V,Step.toks _ _ _ _ _,hs.tok _,_,rfl,?_⟩
 have:(atKey xs (key k)).isSome=(Bq l k).isSome:=by
  revert q
  cases Bq l k<;>cases atKey xs (key k)<;>simp
 rw [this];exact h
theorem KT.isNone{a:AV}{Q:Bool->Store->Prop}(h:match a with | .none=>Q true V | .cls _=>False | _=>Q false V):KT F m V .Is a .none Q X:=by
 intro va vb s hs ra rb
 cases rb
 refine is_none ⟨V,Step.refl _ _ _ _,hs,_,rfl,?_⟩
 cases ra<;>first | exact h | exact h.elim
theorem KT.isNotNone{a:AV}{Q:Bool->Store->Prop}(h:match a with | .none=>Q false V | .cls _=>False | _=>Q true V):KT F m V .IsNot a .none Q X:=by
 intro va vb s hs ra rb
 cases rb
 refine isNot_none ⟨V,Step.refl _ _ _ _,hs,_,rfl,?_⟩
 cases ra<;>first | exact h | exact h.elim
theorem E7{op:CmpOp}{r:ai}(h:Bb r=true):behindInMarks op r=false:=by
 cases r<;>first | rfl | cases h
theorem ET.cmp{op:CmpOp}{l r:E}(h:ET F m V l (fun a Aa=>ET F m Aa r (fun b Ab=>KT F m Ab op a b (fun c Ap=>Q (.bool c) Ap) X) X) X):ET F m V (.cmp op l r) Q X:=by
 intro pe hc s hs;refine X3lppp pe hc.inv fun Z Z Z hn hl hr=>?_;refine wpAny_Compare1 ((h _ hl s hs).out ?_) (E7 hn);intro va Aa Ac Ai Ad u;obtain ⟨a,ra,AO⟩:=u;refine (AO _ hr Ac Ad).out ?_;intro vb Ab Aj An Ah u;obtain ⟨b,rb,Bt⟩:=u;refine (Bt va vb Aj Ah (ra.st An Ah) rb).out ?_;intro v Ap BB A0 AI u;obtain ⟨c,rfl,II⟩:=u;exact ⟨Ap,(Ai.trans An).trans A0,AI,_,.bool c,II⟩
theorem TT.cmp{op:CmpOp}{l r:E}{Q:Bool->Store->Prop}(h:ET F m V l (fun a Aa=>ET F m Aa r (fun b Ab=>KT F m Ab op a b Q X) X) X):TT F m V (.cmp op l r) Q X:=by
 intro pe hc s hs;refine X3lppp pe hc.inv fun Z Z Z hn hl hr=>?_;refine wpAny_isTrue_Compare1 ((h _ hl s hs).out ?_) (E7 hn);intro va Aa Ac Ai Ad u;obtain ⟨a,ra,AO⟩:=u;refine (AO _ hr Ac Ad).out ?_;intro vb Ab Aj An Ah u;obtain ⟨b,rb,Bt⟩:=u;refine (Bt va vb Aj Ah (ra.st An Ah) rb).out ?_;intro v Ap BB A0 AI u;obtain ⟨c,rfl,II⟩:=u;exact cr ⟨Ap,(Ai.trans An).trans A0,AI,II⟩
end
end
section
set_option backward.match.sparseCases true
open PySem PyProof.Rows
variable {S:Sta}
section
variable {F:Fx S}{m:Nat->Option AV}{V:Store}{X:Value->ae->Prop}{Q:AV->Store->Prop}
theorem ET.neg{x:E}{Q:AV->Store->Prop}(h:ET F m V x (fun a Aa=>∃i,a=.int i/\Q (.int (-i)) Aa) X):ET F m V (.neg x) Q X:=by
 intro pe hc s hs;refine X2lp pe hc.inv fun Z Z hx=>?_;refine wpAny_UnaryOp ((h _ hx s hs).out ?_);intro va Aa Ac Ai Ad u;obtain ⟨a,ra,i,rfl,AO⟩:=u;refine X1l va ra.inv fun Z=>?_;obtain ⟨V',st,r,r'⟩:=Et (Ac.toks+1) Ad (.int (-i) Ac.toks) AO;exact neg_int ⟨V',Ai.trans st,r,r'⟩
theorem ET.not{x:E}(h:ET F m V x (fun a Aa=>∃b,a=.bool b/\Q (.bool (!b)) Aa) X):ET F m V (.not x) Q X:=by
 intro pe hc s hs;refine X2lp pe hc.inv fun Z Z hx=>?_;refine wpAny_UnaryOp ((h _ hx s hs).out ?_);intro va Aa Ac Ai Ad u;obtain ⟨a,ra,b,rfl,AO⟩:=u;obtain rfl:=ra.inv;exact not_of (cr ⟨Aa,Ai,Ad,_,.bool _,AO⟩)
theorem TT.not{x:E}{Q:Bool->Store->Prop}(h:TT F m V x (fun b Aa=>Q (!b) Aa) X):TT F m V (.not x) Q X:=by
 intro pe hc s hs;refine X2lp pe hc.inv fun Z Z hx=>?_;exact wpAny_isTrue_Not ((h _ hx s hs).out fun Z V' Z st h1 q=>⟨V',st,h1,q⟩)
noncomputable def JV(e:E):Bool:=!(cw (kd e.st) 3)
noncomputable def Ho(e:E):Bool:=JV e.un
theorem IJ{e:E}{pe:ai}{env:Env}{tb:List Nat}{sc:Nms}(hp:Ho e=true)(hc:CE tb sc pe e):isTrue pe env (eval pe env)=(do let v <- eval pe env;standAt pe.pos;holding [v] (truthy v)):=by
 replace hc:=hc.un;unfold Ho at hp;generalize e.un=e at hc hp;replace hc:=hc.1;unfold JV at hp;rw [<- hc] at hp
 cases pe with
 | UnaryOp op x p=>cases op<;>first | rfl | exact (aH hp).elim
 | _=>first | rfl | exact (aH hp).elim
theorem TT.val{e:E}{Q:Bool->Store->Prop}(hp:Ho e=true)(h:ET F m V e (fun a Aa=>∃b,a=.bool b/\Q b Aa) X):TT F m V e Q X:=by
 intro pe hc s hs;refine wpAny_isTrue_value ((h _ hc s hs).out ?_) (IJ hp hc);intro va Aa Ac Ai Ad u;obtain ⟨a,ra,b,rfl,AO⟩:=u;obtain rfl:=ra.inv;exact cr ⟨Aa,Ai,Ad,AO⟩
noncomputable def AndT(F:Fx S)(m:Nat->Option AV)(X:Value->ae->Prop)(Q:Bool->Store->Prop):List E->Store->Prop
 | [],V=>Q true V
 | e::r,V=>TT F m V e (fun b Aa=>if b then AndT F m X Q r Aa else Q false Aa) X
noncomputable def OrT(F:Fx S)(m:Nat->Option AV)(X:Value->ae->Prop)(Q:Bool->Store->Prop):List E->Store->Prop
 | [],V=>Q false V
 | e::r,V=>TT F m V e (fun b Aa=>if b then Q true Aa else OrT F m X Q r Aa) X
theorem G9{Q:Bool->Store->Prop}{es:List E}:∀{B:List ai}{V:Store}{s:ae},CEs F.tb F.sc B es->AndT F m X Q es V->F.St m V s ->
  W F m V s (allTrue .And B F.env) (fun b V' Z=>Q b V') X:=by
 induction es with
 | nil =>
  intro B V s hc h hs;obtain rfl:=hc.inv_nil;exact wpAny_allTrue_And_nil ⟨V,Step.refl _ _ _ _,hs,h⟩
 | cons e r ih =>
  intro B V s hc h hs;refine X2lppp B hc.inv fun Z Z Z he hr=>?_;refine wpAny_allTrue_And_cons ((h _ he s hs).out ?_)
  rintro b Aa Ac Ai Ad AO
  cases b with
  | true=>exact (ih hr AO Ad).later Ai
  | false=>exact ⟨Aa,Ai,Ad,AO⟩
theorem Je{Q:Bool->Store->Prop}{es:List E}:∀{B:List ai}{V:Store}{s:ae},CEs F.tb F.sc B es->OrT F m X Q es V->F.St m V s ->
  W F m V s (allTrue .Or B F.env) (fun b V' Z=>Q b V') X:=by
 induction es with
 | nil =>
  intro B V s hc h hs;obtain rfl:=hc.inv_nil;exact wpAny_allTrue_Or_nil ⟨V,Step.refl _ _ _ _,hs,h⟩
 | cons e r ih =>
  intro B V s hc h hs;refine X2lppp B hc.inv fun Z Z Z he hr=>?_;refine wpAny_allTrue_Or_cons ((h _ he s hs).out ?_)
  rintro b Aa Ac Ai Ad AO
  cases b with
  | false=>exact (ih hr AO Ad).later Ai
  | true=>exact ⟨Aa,Ai,Ad,AO⟩
theorem TT.and{es:List E}{Q:Bool->Store->Prop}(h:AndT F m X Q es V):TT F m V (.and es) Q X:=by
 intro pe hc s hs;refine X2lp pe hc.inv fun Z Z hx=>?_;exact wpAny_isTrue_BoolOp (G9 hx h hs)
theorem TT.or{es:List E}{Q:Bool->Store->Prop}(h:OrT F m X Q es V):TT F m V (.or es) Q X:=by
 intro pe hc s hs;refine X2lp pe hc.inv fun Z Z hx=>?_;exact wpAny_isTrue_BoolOp (Je hx h hs)
noncomputable def AndV(F:Fx S)(m:Nat->Option AV)(X:Value->ae->Prop)(Q:AV->Store->Prop):List E->Store->Prop
 | [],_=>False
 | [e],V=>ET F m V e Q X
 | e::r,V=>ET F m V e (fun a Aa=>∃b,a=.bool b/\if b then AndV F m X Q r Aa else Q (.bool false) Aa) X
noncomputable def OrV(F:Fx S)(m:Nat->Option AV)(X:Value->ae->Prop)(Q:AV->Store->Prop):List E->Store->Prop
 | [],_=>False
 | [e],V=>ET F m V e Q X
 | e::r,V=>ET F m V e (fun a Aa=>∃b,a=.bool b/\if b then Q (.bool true) Aa else OrV F m X Q r Aa) X
theorem Dm(pos:Pos)(op:BoolOp)(x y:Sem Value)(r:List (Sem Value)):boolOp pos op (x::y::r)=(do
  let v <- x
  standAt pos
  let t <- holding [v] (truthy v)
  match op,t with
  | .And,false | .Or,true=>pure v
  | _,_=>boolOp pos op (y::r)):=rfl
theorem Jc{pos:Pos}{es:List E}:∀{B:List ai}{V:Store}{s:ae},CEs F.tb F.sc B es->AndV F m X Q es V->F.St m V s ->
  VT F m V s (boolOp pos .And (evalEach B F.env)) Q X:=by
 induction es with
 | nil=>intro B V s hc h hs;exact h.elim
 | cons e r ih =>
 intro B V s hc h hs;refine X2lppp B hc.inv fun Z Z Z he hr=>?_
 cases r with
 | nil=>obtain rfl:=hr.inv_nil;exact h _ he s hs
 | cons e' r =>
  have u:=hr;refine X2pp u.inv fun Z Z Z0 Z=>?_;subst Z0;show VT F m V s (boolOp pos .And (eval _ F.env::eval _ F.env::evalEach _ F.env)) Q X;rw [Dm];refine ac ((h _ he s hs).out ?_);intro va Aa Ac Ai Ad T;obtain ⟨a,ra,b,rfl,AO⟩:=T;obtain rfl:=ra.inv;refine ac (dn (ac (bA (cr ?_))))
  cases b with
  | true=>exact (ih hr AO Ad).later Ai
  | false=>exact ag ⟨Aa,Ai,Ad,_,.bool _,AO⟩
theorem LC{pos:Pos}{es:List E}:∀{B:List ai}{V:Store}{s:ae},CEs F.tb F.sc B es->OrV F m X Q es V->F.St m V s ->
  VT F m V s (boolOp pos .Or (evalEach B F.env)) Q X:=by
 induction es with
 | nil=>intro B V s hc h hs;exact h.elim
 | cons e r ih =>
 intro B V s hc h hs;refine X2lppp B hc.inv fun Z Z Z he hr=>?_
 cases r with
 | nil=>obtain rfl:=hr.inv_nil;exact h _ he s hs
 | cons e' r =>
  have u:=hr;refine X2pp u.inv fun Z Z Z0 Z=>?_;subst Z0;show VT F m V s (boolOp pos .Or (eval _ F.env::eval _ F.env::evalEach _ F.env)) Q X;rw [Dm];refine ac ((h _ he s hs).out ?_);intro va Aa Ac Ai Ad T;obtain ⟨a,ra,b,rfl,AO⟩:=T;obtain rfl:=ra.inv;refine ac (dn (ac (bA (cr ?_))))
  cases b with
  | false=>exact (ih hr AO Ad).later Ai
  | true=>exact ag ⟨Aa,Ai,Ad,_,.bool _,AO⟩
theorem ET.and{es:List E}(h:AndV F m X Q es V):ET F m V (.and es) Q X:=by
 intro pe hc s hs;refine X2lp pe hc.inv fun Z Z hx=>?_;exact Jc hx h hs
theorem ET.or{es:List E}(h:OrV F m X Q es V):ET F m V (.or es) Q X:=by
 intro pe hc s hs;refine X2lp pe hc.inv fun Z Z hx=>?_;exact LC hx h hs
theorem ET.ite{c a b:E}(h:TT F m V c (fun t Aa=>if t then ET F m Aa a Q X else ET F m Aa b Q X) X):ET F m V (.ite c a b) Q X:=by
 intro pe hc s hs;have O:=hc.inv;clear hc;refine X4lppp pe O fun Z Z Z Z hc ha hb=>?_;refine wpAny_IfExp ((h _ hc s hs).out ?_)
 rintro t Aa Ac Ai Ad AO
 cases t with
 | true=>exact (AO _ ha Ac Ad).later Ai
 | false=>exact (AO _ hb Ac Ad).later Ai
theorem wp_rel{A:cz}{vs ks:List Value}{s:ae}{Q:Unit->ae->Prop}(h:Q () s):wpAny (model S.prog S.w) A (release vs ks) Q X s:=fun Γ p _=>by
 rw [Sem.wp_release];exact h
theorem TT.cmp2{o1 o2:CmpOp}{a b c:E}{Q:Bool->Store->Prop}
  (h:ET F m V a (fun x Aa=>ET F m Aa b (fun y Ab=>KT F m Ab o1 x y (fun t Ap=>if t then ET F m Ap c (fun z Cd=>KT F m Cd o2 y z Q X) X else Q false Ap) X) X) X) :
  TT F m V (.cmp2 o1 o2 a b c) Q X:=by
 intro pe hc s hs;refine X4lppppp pe hc.inv fun pa pb pc pos U d ha hb T=>?_
 have he:isTrue (.Compare pa [o1,o2] [pb,pc] pos) F.env (eval (.Compare pa [o1,o2] [pb,pc] pos) F.env) =
  (do testChain pos (<- eval pa F.env) [o1,o2] (markedEach [o1,o2] [pb,pc] [eval pb F.env,eval pc F.env])):=rfl
 show wpAny _ _ (isTrue _ _ _) _ _ _;rw [he];have Y:markedEach [o1,o2] [pb,pc] [eval pb F.env,eval pc F.env]=[eval pb F.env,eval pc F.env]:=by
  have h2:=markedBehindIn_of_false (t:=eval pc F.env) (E7 (op:=o2) d);simp only [markedEach,h2]
 rw [Y];refine ac ((h _ ha s hs).out ?_);intro va Aa Ac Ai Ad u;obtain ⟨x,rx,AO⟩:=u;refine ac (bA ((AO _ hb Ac Ad).out ?_));intro vb Ab Aj An Ah u;obtain ⟨y,ry,Bt⟩:=u;refine ac (dn (ac (bA ((Bt va vb Aj Ah (rx.st An Ah) ry).out ?_))));intro v Ap BB A0 AI u;refine X1lp v u fun t II=>?_;refine ac (m:=release _ _) (wp_rel (ac (bA (cr ?_))))
 cases t with
 | false=>exact ag ⟨Ap,(Ai.trans An).trans A0,AI,II⟩
 | true =>
  refine ac (bA ((II _ T BB AI).out ?_));intro vc Cd Bw BM Bx u;obtain ⟨z,rz,q₄⟩:=u;refine ac (dn (ac (m:=operate _ _) (wpAny_operating ((q₄ vb vc Bw Bx ((ry.st A0 AI).st BM Bx) rz).out ?_))));intro v Ei It Ej GS u;refine X1lp v u fun t q₅=>?_;exact bA (cr ⟨Ei,(((Ai.trans An).trans A0).trans BM).trans Ej,GS,q₅⟩)
end
end
section
open PySem PyProof.Rows
variable {S:Sta}
section
variable {F:Fx S}{m:Nat->Option AV}{V:Store}{X:Value->ae->Prop}{Q:AV->Store->Prop}
noncomputable def IT(F:Fx S)(m:Nat->Option AV)(V:Store)(a k:AV)(Q:AV->Store->Prop)(X:Value->ae->Prop):Prop :=
 ∀va vk s,F.St m V s->Rep S.cv s.heap (F.D V) a va->Rep S.cv s.heap (F.D V) k vk ->
  ∃T id,s.TypeIs va T/\typeLookup (.type T) "__getitem__"=pure (some (.builtin id))/\VT F m V s (getItem va vk) Q X
theorem CY{i:ai}{o k:Value}(h:BJ i=true):subscripted i false o k=operate [o,k] (getItem o k):=by
 cases i<;>first | rfl | cases h
theorem ET.sub{o i:E}(h:ET F m V o (fun a Aa=>ET F m Aa i (fun k Ab=>IT F m Ab a k Q X) X) X):ET F m V (.sub o i) Q X:=by
 intro pe hc s hs;refine X3lppp pe hc.inv fun Z Z Z hn ho hi=>?_;refine Subscript_ ((h _ ho s hs).out ?_);intro va Aa Ac Ai Ad u;obtain ⟨a,ra,AO⟩:=u;refine (AO _ hi Ac Ad).out ?_;intro vk Ab Aj An Ah u;obtain ⟨k,rk,Bt⟩:=u;refine X2ppp (Bt va vk Aj Ah (ra.st An Ah) rk) fun T id hT hl hg=>?_;exact tail_any hT hl (hg.later (Ai.trans An)) (CY hn)
theorem RepL.get{cv:Nat->Value}{h:Heap}{D:Addr->Prop}{l:List AV}{vs:List Value}{k:Nat}{x:AV}(r:RepL cv h D l vs)(e:l[k]?=some x):∃v,vs[k]?=some v/\Rep cv h D x v:=by
 induction l generalizing vs k with
 | nil=>exact (Ak gL e).elim
 | cons y l ih =>
  obtain ⟨v,us,rfl,a,b⟩:=r.inv
  cases k with
  | zero=>exact ⟨v,rfl,ar e▸a⟩
  | succ k=>exact ih (vs:=us) (k:=k) b e
theorem lt_63{i:Int}(h:i<1000000):i<2 ^ 63:=Int.lt_trans h (by decide)
theorem seqIx{i:Int}{n:Nat}(h0:0<=i)(h1:i<n):seqIndex? i n=some i.toNat:=by
 unfold seqIndex?;have h2:¬i<0:=by exact lin [] [i] (.l V0 K0) [.f K0 V0] rfl h0
 simp only [h2,if_false];rw [if_pos (by simp;exact ⟨lin [] [i] (.f K0 V0) [.f K0 V0] rfl h0,lin [n] [i] (.g V0 (.c V0)) [.g V0 (.c V0)] rfl h1⟩)]
theorem IT.list{a:AV}{l:List AV}{i:Int}{x:AV}(ha:dl V a=some l)(h0:0<=i)(h1:i<1000000)(hx:l[i.toNat]?=some x)(h:Q x V):IT F m V a (.int i) Q X:=by
 intro va vk s hs ra rk;refine X3lpp va (ra.lst hs.inv ha) fun ad vs n e rl=>?_;refine X1l vk rk.inv fun Z=>?_;refine X1pp (rl.get hx) fun v hv rv=>?_;have hl:s.heap.IsList ad vs.toArray:=⟨_,e,rfl,n,rfl⟩;exact ⟨_,_,hl.typeIs,slot_list_getitem.lookup,wpAny_getItem_list hl h0 (lt_63 h1) (by simpa using hv) (now hs rv h)⟩
theorem IT.nums{l:List Int}{i x:Int}(h0:0<=i)(h1:i<1000000)(hx:l[i.toNat]?=some x)(h:Q (.int x) V):IT F m V (.nums l) (.int i) Q X:=by
 intro va vk s hs ra rk
 ·refine X4lppppp va ra.inv fun a o vs n e c f d r=>?_
  refine X1l vk rk.inv fun Z=>?_;refine X1p (r.2 _ _ hx) fun t hv=>?_;have hl:s.heap.IsList a vs.toArray:=⟨o,e,c,n,f⟩;exact ⟨_,_,hl.typeIs,slot_list_getitem.lookup,wpAny_getItem_list hl h0 (lt_63 h1) (by simpa using hv) (now hs (.int _ _) h)⟩
theorem IT.tup{l:List AV}{i:Int}{x:AV}(h0:0<=i)(h1:i<1000000)(hx:l[i.toNat]?=some x)(h:Q x V):IT F m V (.tup l) (.int i) Q X:=by
 intro va vk s hs ra rk
 ·refine X3lppp va ra.inv fun ad vs n e d r=>?_
  refine X1l vk rk.inv fun Z=>?_;obtain ⟨v,hv,rv⟩:=r.get hx;have ht:IsTup s.heap ad vs.toArray:=⟨_,e,rfl,n,rfl⟩;have u:i.toNat<vs.length:=by
   rcases bJ i.toNat vs.length with q | q
   ·exact q
   ·rw [ba q] at hv;cases hv
  have lo:-(2:Int) ^ 63<=i:=dh (by decide) h0
  refine ⟨_,_,⟨_,e,rfl⟩,PyProof.Rows.slot_tuple_getitem.lookup,getItem_tuple ht lo (lt_63 h1) (j:=i.toNat) ?_ (by simpa using hv) (now hs rv h)⟩
  rw [aG];exact seqIx h0 (by exact lin [i.toNat,vs.length] [i] (.g V0 (.c V1)) [.c V0 V1,.f V0 (.c V0)] rfl u (aK i))
theorem IT.str{x:Str}{i:Int}{c:Nat}(h0:0<=i)(h1:i<1000000)(hx:x.cps[i.toNat]?=some c)(h:Q (.str ⟨#[c]⟩) V):IT F m V (.str x) (.int i) Q X:=by
 intro va vk s hs ra rk;refine X1l va ra.inv fun Z=>?_;refine X1l vk rk.inv fun Z=>?_;refine ⟨_,_,typeIs_str _ _ _,PySem.F.slot_str_getitem.lookup,P.getItem_str (c:=c) ?_ ?_ (Et _ hs (.str _ _) h)⟩
 ·have:i<2 ^ 63:=lt_63 h1
  simp only [Bool.or_eq_false_iff,decide_eq_false_iff_not];exact ⟨fw.mpr (dh (by decide) h0),gr.mpr this⟩
 ·have u:i.toNat<x.cps.size:=by
   rcases bJ i.toNat x.cps.size with q | q
   ·exact q
   ·rw [Array.getElem?_eq_none q] at hx;cases hx
  rw [seqIx h0 (show i<(x.length:Int) from by have:x.length=x.cps.size:=rfl;exact lin [i.toNat,x.cps.size,x.length] [i] (.g V0 (.c V2)) [.c V0 V1,.D (-1) V2 V1,.f V0 (.c V0)] rfl u this (aK i))]
  exact hx
theorem IT.dict{a:AV}{l:List (Af×AV)}{k:Af}{x:AV}(ha:dd V a=some l)(hx:Bq l k=some x)(h:Q x V):IT F m V a (sp k) Q X:=by
 intro va vk s hs ra rk;refine X4lpp vk rk.spot fun t tx ty n e d=>?_;refine X3lpppp va (ra.dct hs.inv ha) fun ad es n' e' sm nd rd=>?_;refine X1pp (RepD.xs (S:=S) rd) fun xs B Z0=>?_;clear rd;subst Z0;have q:=B.at_ k;rw [hx] at q
 cases hp:atKey xs (key k) with
 | none=>rw [hp] at q;exact q.elim
 | some p =>
  rw [hp] at q;exact ⟨_,_,(Ee (S:=S) B nd e').typeIs,PySem.slot_dict_getitem.lookup,wpAny_getItem_heap (Bz F) (Ed e) (Ee B nd e') hp (Et _ hs q h)⟩
theorem optE{pe:Option ai}{e:E}{s:ae}(h:ET F m V e Q X)(hc:CO (fun x=>CE F.tb F.sc x e) pe e)(hs:F.St m V s):VT F m V s (valueOrNone (evalOpt pe F.env)) Q X:=by
 rcases hc.inv with ⟨rfl,rfl⟩ | ⟨x,rfl,he⟩
 ·exact h (.Constant .none 0 default) .none s hs
 ·exact h _ he s hs
theorem RepL.take{cv:Nat->Value}{h:Heap}{D:Addr->Prop}{l:List AV}{vs:List Value}(k:Nat)(r:RepL cv h D l vs):RepL cv h D (l.take k) (vs.take k):=by
 induction l generalizing vs k with
 | nil=>rw [show vs=[] from r.inv,List.take_nil,List.take_nil];exact .nil
 | cons y l ih =>
  obtain ⟨v,us,rfl,a,b⟩:=r.inv
  cases k with
  | zero=>exact .nil
  | succ k=>exact .cons a (ih k b)
theorem RepL.drop{cv:Nat->Value}{h:Heap}{D:Addr->Prop}{l:List AV}{vs:List Value}(k:Nat)(r:RepL cv h D l vs):RepL cv h D (l.drop k) (vs.drop k):=by
 induction l generalizing vs k with
 | nil=>rw [show vs=[] from r.inv,List.drop_nil,List.drop_nil];exact .nil
 | cons y l ih =>
  cases k with
  | zero=>exact r
  | succ k=>refine X2lpp vs r.inv fun v us a b=>?_;exact ih k b
end
end
section
variable {S:Sta}
noncomputable def Callable(S:Sta)(f:Value):Prop:=∀h,(∀b o,S.g.get? b=some o->h.get? b=some o)->∃k,(k=Keeper.frame\/k=Keeper.machine\/k=Keeper.boundFrame)/\Looks (model S.prog S.w) h (keeperOf f) k
theorem Callable.builtin(id:String):Callable S (.builtin id):=fun Z Z=>⟨.machine,.inr (.inl rfl),Looks.of_pure rfl⟩
theorem Callable.type(id:String):Callable S (.type id):=fun Z Z=>⟨.machine,.inr (.inl rfl),Looks.of_pure rfl⟩
theorem Callable.own{f:Value}(h:keepIn S.K f=true):Callable S f:=fun Z k=>keeps_K h _ (S.X.keeps k)
section
variable {F:Fx S}{m:Nat->Option AV}{V:Store}{X:Value->ae->Prop}{Q:AV->Store->Prop}
noncomputable def CT(F:Fx S)(m:Nat->Option AV)(V:Store)(f:Value)(avs:List AV)(Q:AV->Store->Prop)(X:Value->ae->Prop):Prop :=
 ∀vals s,F.St m V s->RepL S.cv s.heap (F.D V) avs vals->VT F m V s (call f vals) Q X
theorem J6{pos:Pos}{B:List ai}{es:List E}(hc:CEs F.tb F.sc B es):(backTo pos (e8 B F.env)).any (·.1)=false:=by
 induction es generalizing B with
 | nil=>obtain rfl:=hc.inv_nil;rfl
 | cons e es ih=>refine X2lppp B hc.inv fun Z Z hn Z hr=>?_;rw [AX hn];exact ih hr
theorem CQ{pos:Pos}{f:Value}{first:List Value}{B:List ai}{e:E}{es:List E}{s:ae}{P:List AV->Store->Prop}{Q':Value->ae->Prop}(hc:CEs F.tb F.sc B (e::es))(hk:Callable S f)(h:EsT F m V (e::es) P X)(hs:F.St m V s)
  (hq:∀U u V' s',Step F.P F.O V s V' s'->F.St m V' s'->RepL S.cv s'.heap (F.D V') u U->P u V'->wpAny (model S.prog S.w) F.A (call f (first++U)) Q' X s') :
  wpAny (model S.prog S.w) F.A (callWith pos f first (backTo pos (e8 B F.env)) []) Q' X s:=by
 refine callWith_of (P:=fun h=>∀b o,S.g.get? b=some o->h.get? b=some o) (by rw [J6 hc];rfl) hk ?_
 have h':=h _ pos hc s hs;refine X2pppp hc.inv fun Z Z Z0 hn he hr=>?_;clear hc;subst Z0;rw [AX hn] at h' ⊢;refine Calls.evalArgs_plain (W.out h' ?_);intro U V' s' st h1 d;obtain ⟨u,r,p⟩:=d;exact ⟨h1.inv.keep,hq U u V' s' st h1 r p⟩
theorem EF{pos:Pos}{f:Value}{first:List Value}{s:ae}{Q':Value->ae->Prop}(hk:Callable S f)(hs:F.St m V s)(hq:wpAny (model S.prog S.w) F.A (call f (first++[])) Q' X s) :
  wpAny (model S.prog S.w) F.A (callWith pos f first (backTo pos (e8 [] F.env)) []) Q' X s :=
 callWith_of (P:=fun h=>∀b o,S.g.get? b=some o->h.get? b=some o) rfl hk (evalArgs_nil3 ⟨hs.inv.keep,hq⟩)
theorem ET.callg{i:Nat}{fv:Value}{e:E}{es:List E}(hg:Glob S i fv)(hk:Callable S fv)(h:EsT F m V (e::es) (fun u Aa=>CT F m Aa fv u Q X) X):ET F m V (.call (.g i) (e::es)) Q X:=by
 intro pe hc s hs;refine X4lppp pe hc.inv fun Z Z Z Z Z hx ha=>?_;refine Call_ (Ew hx hg hs (CQ ha hk h hs ?_));intro U u V' s' st h1 r p;exact (p U s' h1 r).later st
theorem RepL.one{cv:Nat->Value}{h:Heap}{D:Addr->Prop}{a:AV}{vs:List Value}(r:RepL cv h D [a] vs):∃v,vs=[v]/\Rep cv h D a v:=by
 refine X2lpp vs r.inv fun v us r1 rr=>?_;obtain rfl:=rr.inv;exact ⟨_,rfl,r1⟩
theorem RepL.two{cv:Nat->Value}{h:Heap}{D:Addr->Prop}{a b:AV}{vs:List Value}(r:RepL cv h D [a,b] vs):∃v u,vs=[v,u]/\Rep cv h D a v/\Rep cv h D b u:=by
 refine X2lpp vs r.inv fun v us r1 rr=>?_;refine X1lp us rr.one fun u r2=>?_;exact ⟨_,_,rfl,r1,r2⟩
theorem Gc{n:Nat}(h:n<=big):¬(n:Int) >= 2 ^ 63:=by
 have:(n:Int)<=1000000:=by unfold big at h;exact lin [n] [] (.f (.c V0) Az) [.b V0 Az] rfl h
 exact gr.mpr (eO this (by decide))
theorem CT.lenList{a:AV}{l:List AV}(ha:dl V a=some l)(hz:l.length<=big)(h:Q (.int l.length) V):CT F m V (.builtin "len") [a] Q X:=by
 intro U s hs r;refine X1lp U r.one fun v ra=>?_;refine X3lpp v (ra.lst hs.inv ha) fun ad vs n e rl=>?_;have hL:s.heap.IsList ad vs.toArray:=⟨_,e,rfl,n,rfl⟩;refine Calls.call_len_list hL (by rw [aG,rl.length];exact gr.mp (Gc hz)) ?_
 rw [aG,rl.length];exact Et _ hs (.int _ _) h
theorem CT.lenInts{l:List Int}(hz:l.length<=big)(h:Q (.int l.length) V):CT F m V (.builtin "len") [.nums l] Q X:=by
 intro U s hs r;refine X1lp U r.one fun v ra=>?_
 ·refine X4lppppp v ra.inv fun a o vs n e c f d ri=>?_
  have hL:s.heap.IsList a vs.toArray:=⟨o,e,c,n,f⟩;refine Calls.call_len_list hL (by rw [aG,ri.1];exact gr.mp (Gc hz)) ?_
  rw [aG,ri.1];exact Et _ hs (.int _ _) h
theorem CT.lenStr{x:Str}(hz:x.length<=big)(h:Q (.int x.length) V):CT F m V (.builtin "len") [.str x] Q X:=by
 intro U s hs r;refine X1lp U r.one fun v ra=>?_;refine X1l v ra.inv fun Z=>?_;exact P.len_str (Gc hz) (Et _ hs (.int _ _) h)
end
end
section
variable {S:Sta}
noncomputable abbrev Vars:=Nat->Option AV
noncomputable def Vars.set(m:Vars)(i:Nat)(v:AV):Vars:=fun j=>if j=i then some v else m j
set_option genCtorIdx false in
inductive Fl where
 | next
 | ret (v:AV)
noncomputable abbrev Fl.ctorIdx(x:Fl):Nat:=@Fl.casesOn (fun _=>Nat) x 0 (fun _=>1)
noncomputable def FlR(cv:Nat->Value)(h:Heap)(D:Addr->Prop):Flow->Fl->Prop
 | .next,.next=>True
 | .ret v,.ret a=>Rep cv h D a v
 | _,_=>False
inductive PS(F:Fx S)(V:Store)(s:ae)(K:Fl->Vars->Store->Prop)(f:Flow)(s':ae):Prop
 | mk (fl:Fl)(m':Vars)(V':Store)(st:Step F.P F.O V s V' s')(h:F.St m' V' s')(r:FlR S.cv s'.heap (F.D V') f fl)(k:K fl m' V'):PS F V s K f s'
inductive PP(F:Fx S)(V:Store)(s:ae)(K:Vars->Store->Prop)(s':ae):Prop
 | mk (m':Vars)(V':Store)(st:Step F.P F.O V s V' s')(h:F.St m' V' s')(k:K m' V'):PP F V s K s'
noncomputable def WS(F:Fx S)(V:Store)(s:ae)(t:Sem Flow)(K:Fl->Vars->Store->Prop)(X:Value->ae->Prop):Prop :=
 wpAny (model S.prog S.w) F.A t (PS F V s K) X s
noncomputable def ST(F:Fx S)(m:Vars)(V:Store)(st:Mine.Internal.S)(K:Fl->Vars->Store->Prop)(X:Value->ae->Prop):Prop :=
 ∀ps,CS F.tb F.sc ps st->∀s,F.St m V s->WS F V s (exec ps F.env) K X
noncomputable def SsT(F:Fx S)(m:Vars)(V:Store)(ss:List Mine.Internal.S)(K:Fl->Vars->Store->Prop)(X:Value->ae->Prop):Prop :=
 ∀ps,CSs F.tb F.sc ps ss->∀s,F.St m V s->WS F V s (execs ps F.env) K X
section
variable {F:Fx S}{m:Vars}{V:Store}{X:Value->ae->Prop}{K K':Fl->Vars->Store->Prop}
theorem WS.mono{s:ae}{t:Sem Flow}(h:WS F V s t K X)(k:∀f m V,K f m V->K' f m V):WS F V s t K' X :=
 aV h (fun _ _ ⟨fl,m',V',st,h1,h2,h3⟩=>⟨fl,m',V',st,h1,h2,k _ _ _ h3⟩) fun Z Z e=>e
theorem WS.later{s:ae}{t:Sem Flow}{Ay:Store}{AH:ae}(h:WS F V s t K X)(st:Step F.P F.O Ay AH V s) :
  wpAny (model S.prog S.w) F.A t (PS F Ay AH K) X s :=
 aV h (fun _ _ ⟨fl,m',V',st',h1,h2,h3⟩=>⟨fl,m',V',st.trans st',h1,h2,h3⟩) fun Z Z e=>e
theorem ST.mono{st:Mine.Internal.S}(h:ST F m V st K X)(k:∀f m V,K f m V->K' f m V):ST F m V st K' X:=fun ps hc s hs=>(h ps hc s hs).mono k
theorem SsT.mono{ss:List Mine.Internal.S}(h:SsT F m V ss K X)(k:∀f m V,K f m V->K' f m V):SsT F m V ss K' X:=fun ps hc s hs=>(h ps hc s hs).mono k
theorem SsT.weak{ss:List Mine.Internal.S}{m':Vars}{V':Store}(h:SsT F m' V' ss K X)(hm:∀i av,m' i=some av->m i=some av)(hσ:∀a o,V' a=some o->V a=some o):SsT F m V ss K X:=by
 intro ps hc s hs;refine Ao ((hs.weak hm).drop hσ) fun h1 st=>?_;exact (h ps hc s h1).later st.any
set_option tactic.hygienic true in
theorem SsT.nil(h:K .next m V):SsT F m V [] K X:=by
 intro ps hc s hs;obtain rfl:=hc.inv_nil;exact wpAny_execs_nil ⟨.next,m,V,Step.refl _ _ _ _,hs,trivial,h⟩
theorem SsT.cons{st:Mine.Internal.S}{r:List Mine.Internal.S}(h:ST F m V st (fun fl Am Aa=>match fl with | .next=>SsT F Am Aa r K X | .ret v=>K (.ret v) Am Aa) X):SsT F m V (st::r) K X:=by
 intro ps hc s hs;refine X2lpp ps hc.inv fun Z Z he hr=>?_;refine wpAny_execs_cons (aV (h _ he s hs) ?_ fun Z Z e=>e);intro f Ac B;obtain ⟨fl,Am,Aa,Ai,Ad,hf,q⟩:=B
 cases fl with
 | next =>
  cases f with
  | next=>exact (q _ hr Ac Ad).later Ai
  | _=>exact hf.elim
 | ret v =>
  cases f with
  | ret u=>exact ⟨.ret v,Am,Aa,Ai,Ad,hf,q⟩
  | _=>exact hf.elim
set_option tactic.hygienic true in
theorem ST.pass(h:K .next m V):ST F m V .pass K X:=by
 intro ps hc s hs;refine X1l ps hc.inv fun Z=>?_;exact wpAny_Pass ⟨.next,m,V,Step.refl _ _ _ _,hs,trivial,h⟩
theorem ST.ret{e:E}(h:ET F m V e (fun a Aa=>K (.ret a) m Aa) X):ST F m V (.ret e) K X:=by
 intro ps hc s hs;refine X2lp ps hc.inv fun Z Z he=>?_;refine wpAny_Return_some ((h _ he s hs).out ?_);intro v Aa Ac Ai Ad u;obtain ⟨a,ra,q⟩:=u;exact ⟨.ret a,m,Aa,Ai,Ad,ra,q⟩
theorem ST.ite{c:E}{a b:List Mine.Internal.S}(h:TT F m V c (fun t Aa=>if t then SsT F m Aa a K X else SsT F m Aa b K X) X):ST F m V (.ite c a b) K X:=by
 intro ps hc s hs;have O:=hc.inv;clear hc;refine X4lppp ps O fun Z Z Z Z hc ha hb=>?_;refine wpAny_If ((h _ hc s hs).out ?_)
 rintro t Aa Ac Ai Ad AO
 cases t with
 | true=>exact (AO _ ha Ac Ad).later Ai
 | false=>exact (AO _ hb Ac Ad).later Ai
theorem St.own_turn{tb:List Nat}{env:Env}{N P:Addr->Prop}{b:Store×ae}{m m':Vars}{s:ae}{L:Addr}{h':Heap}{tk:Nat}(hs:Mine.Internal.St S tb env N P b m V s)(oL:Own env L)
  (hk:∀c o,c≠L->s.heap.get? c=some o->h'.get? c=some o) (hL:∃o,h'.get? L=some o) (hl:Loc S.cv S.g tb env m' N V h') :
  Step P (Own env) V s V { s with heap:=h',toks:=tk }/\Mine.Internal.St S tb env N P b m' V { s with heap:=h',toks:=tk }:=by
 have there:∀c o,s.heap.get? c=some o->∃o',h'.get? c=some o':=fun c o e=>by
  by_cases q:c=L
  ·clear oL hk;subst q;exact hL
  ·exact ⟨o,hk c o q e⟩
 have st:Step P (Own env) V s V { s with heap:=h',toks:=tk }:=Step.of_but (fun c o Z n e=>hk c o (fun q=>n (q▸oL)) e) (fun Z h=>.inl h) there
 have own:=hs.loc;obtain ⟨_,_,_,_,o,_,_,_⟩:=own;have e0:Ext (DN N V) s.heap h':=Ext.of_but fun c oc d e=>hk c oc (fun q=>d (.inr (q▸hs.own L oL))) e;refine ⟨st,⟨fun c oc e=>hk c oc (fun q=>?_) (hs.inv.keep c oc e),hs.inv.gens,hs.inv.drawn,hs.inv.os,hs.inv.σg,hs.inv.σN,fun c h=>?_,fun c oc e=>?_⟩,hl,hs.frm.out st hs.new,hs.pN,hs.new,hs.own,hs.gb⟩
 ·clear hk hL;subst q;rw [(o c oL).2] at e;cases e
 ·refine X1pp (hs.inv.Nin c h) fun ob e f=>?_
  by_cases q:c=L
  ·obtain ⟨mc,cm,n,cc,_⟩:=hl
   clear hk hL;subst q
   rcases oL with rfl | ⟨y,hy⟩
   ·refine X3ppp n fun o' Z Z e' d' Z=>?_;exact ⟨o',e',fun vs z=>by rw [d'] at z;cases z⟩
   ·refine X1pp (cc y _ hy) fun o' e' d'=>?_;exact ⟨o',e',fun vs z=>by rw [d'] at z;cases z⟩
  ·exact ⟨ob,hk c ob q e,f⟩
 ·exact (hs.inv.rep c oc e).ext e0 (fun Z h=>.inl h) fun ob e'=>hk c ob (fun q=>(o L oL).1 (by rw [<- q];unfold Dom;rw [e];simp)) e'
theorem Cm{i:Nat}{x:Str}{av:AV}{v:Value}{s:ae}{Q':Unit->ae->Prop}(hf:F.sc.lookup x≠some .free)(hx:IsV F.tb F.sc x i)(hs:F.St m V s)(r:Rep S.cv s.heap (F.D V) av v)
  (h:∀s',Step F.P F.O V s V s'->F.St (Vars.set m i av) V s'->Q' () s'):wpAny (model S.prog S.w) F.A (storeName F.env x v) Q' X s:=by
 obtain ⟨mc,cm,n,c,o,ap,cl,rr⟩:=hs.loc;have kd:∀y,F.env.kindOf y=F.sc.lookup y:=fun Z=>rfl;have B:∀{y:Str}{j:Nat}{bv:AV},ixS F.tb y=some j->(Vars.set m i av) j=some bv->(y=x/\bv=av)\/(y≠x/\m j=some bv):=by
  intro y j bv hj hm;unfold Vars.set at hm
  by_cases q:j=i
  ·clear h;subst q
   rw [if_pos rfl] at hm;exact .inl ⟨BK hj hx.ix,(ar hm).symm⟩
  ·rw [if_neg q] at hm
   refine .inr ⟨fun e=>?_,hm⟩;clear hf;subst e;rw [hx.ix] at hj;exact q (ar hj).symm
 rcases hx.kind with q | q | q
 ·refine wpAny_storeName_local ((kd x).trans q) n (fun h' hn Y=>?_) (by rw [F.fk];rfl)
  have hk:∀cc oc,cc≠F.env.locals->s.heap.get? cc=some oc->h'.get? cc=some oc:=fun cc oc ne e=>Y.extBut cc oc ne e;have hL:∃oo,h'.get? F.env.locals=some oo:=by refine X3pp hn fun oo Z Z e Z=>?_;exact ⟨oo,e⟩
  have e0:Ext (F.D V) s.heap h':=Ext.of_but fun cc oc d e=>hk cc oc (fun q=>d (.inr (q▸hs.own _ (.inl rfl)))) e;have u:Loc S.cv S.g F.tb F.env (Vars.set m i av) F.N V h':=by
   refine ⟨_,cm,hn,fun y cc hy=>?_,o,ap,cl,fun y j bv hj hm=>?_⟩
   ·refine X1pp (c y cc hy) fun ob e hd=>?_
    exact ⟨ob,hk cc ob (cl y cc hy) e,hd⟩
   ·rcases B hj hm with ⟨rfl,rfl⟩ | ⟨ne,U⟩
    ·rw [kd,q]
     exact ⟨v,if_pos rfl,r.ext e0 fun Z h=>.inl h⟩
    ·exact LocAt.map (rr y j bv hj U) (fun h2=>h2.ext e0 fun Z h=>.inl h) (fun Z h1=>(if_neg ne).trans h1) (fun Z h1=>h1)
  refine Ao (St.own_turn (tk:=s.toks+1) hs (.inl rfl) hk hL u) fun st h1=>?_;exact h _ st h1
 ·have hc:=F.fc x ((kd x).trans q)
  ·refine X1p hc fun cc T=>?_
   refine wpAny_storeName_cell F.fk ((kd x).trans q) T (c x cc T) (fun h' hv Y=>?_);have hk:∀d od,d≠cc->s.heap.get? d=some od->h'.get? d=some od:=fun d od ne e=>Y.extBut d od ne e;have hL:∃oo,h'.get? cc=some oo:=by refine X1pp hv fun oo e Z=>?_;exact ⟨oo,e⟩
   have e0:Ext (F.D V) s.heap h':=Ext.of_but fun d od dd e=>hk d od (fun q=>dd (.inr (q▸hs.own _ (.inr ⟨x,T⟩)))) e;have u:Loc S.cv S.g F.tb F.env (Vars.set m i av) F.N V h':=by
    refine ⟨mc,fun y=>if y=x then some v else cm y,n.sameBut Y (fJ (cl x cc T)),fun y d hy=>?_,o,ap,cl,fun y j bv hj hm=>?_⟩
    ·by_cases e:y=x
     ·clear hf hx B q hc;subst e;rw [T] at hy;cases hy;simp only [if_true];exact hv
     ·simp only [if_neg e]
      refine X1pp (c y d hy) fun ob eo hd=>?_;exact ⟨ob,hk d ob (fun z=>e (ap y x d hy (z▸T))) eo,hd⟩
    ·rcases B hj hm with ⟨rfl,rfl⟩ | ⟨ne,U⟩
     ·rw [kd,q]
      exact ⟨v,cc,T,if_pos rfl,r.ext e0 fun Z h=>.inl h⟩
     ·exact LocAt.map (rr y j bv hj U) (fun h2=>h2.ext e0 fun Z h=>.inl h) (fun Z h1=>h1) (fun Z h1=>(if_neg ne).trans h1)
   refine Ao (St.own_turn (tk:=s.toks) hs (.inr ⟨x,T⟩) hk hL u) fun st h1=>?_;exact h _ st h1
 ·exact absurd q hf
noncomputable def PT(F:Fx S)(m:Vars)(V:Store)(p:Pat)(a:AV)(K:Vars->Store->Prop)(X:Value->ae->Prop):Prop :=
 ∀pe,CP F.tb F.sc pe p->∀v s,F.St m V s->Rep S.cv s.heap (F.D V) a v ->
  wpAny (model S.prog S.w) F.A (assign pe F.env v) (fun Z=>PP F V s K) X s
theorem PT.v{i:Nat}{a:AV}{K:Vars->Store->Prop}(h:K (Vars.set m i a) V):PT F m V (.v i) a K X:=by
 intro pe hc v s hs r;refine X2lpp pe hc.inv fun Z Z hf hx=>?_;exact wpAny_assign_Name (Cm hf hx hs r fun s' st h1=>⟨_,V,st,h1,h⟩)
noncomputable def Dt(e:E):Bool:=!(cw (kd e.st) 1)
noncomputable def J4(e:E):Bool:=!(cw (kd e.st) 2)
noncomputable def AJ(e:E):Bool:=Dt e.un
noncomputable def FG(e:E):Bool:=J4 e.un
theorem B4{sc:Nms}{pe t:ai}{e:E}{u:Nat}{env:Env}{tb:List Nat}(hc:CE tb sc pe e)(h:AJ e=true):swapsWith pe (some t) u env=pure false:=by
 replace hc:=hc.un;unfold AJ at h;generalize e.un=e at hc h;replace hc:=hc.1;unfold Dt at h;rw [<- hc] at h
 cases pe<;>first | rfl | exact (aH h).elim
theorem ST.assign{i:Nat}{e:E}(hn:AJ e=true)(h:ET F m V e (fun a Aa=>K .next (Vars.set m i a) Aa) X):ST F m V (.assign (.v i) e) K X:=by
 intro ps hc s hs;refine X3lpp ps hc.inv fun Z Z Z hp he=>?_;refine X2ppp hp.inv fun Z Z Z0 hf hx=>?_;subst Z0;refine wpAny_Assign_Name ((h _ he s hs).out ?_) (B4 he hn);intro v Aa Ac Ai Ad u;obtain ⟨a,ra,q⟩:=u;exact Cm hf hx Ad ra fun Aj An Ah=>⟨.next,_,Aa,Ai.trans An,Ah,trivial,q⟩
theorem Iu{sc:Nms}{pe:ai}{e:E}{u:Nat}{env:Env}{tb:List Nat}(hc:CE tb sc pe e)(h:AJ e=true):swapsWith pe none u env=pure false:=by
 replace hc:=hc.un;unfold AJ at h;generalize e.un=e at hc h;replace hc:=hc.1;unfold Dt at h;rw [<- hc] at h
 cases pe<;>first | rfl | exact (aH h).elim
set_option tactic.hygienic true in
theorem let_go{pe:ai}{pos:Pos}{v:Value}{A:cz}{s:ae}{Q':Flow->ae->Prop}(h:Q' .next s):wpAny (model S.prog S.w) A (dropValue pe pos v) Q' X s:=by
 unfold dropValue
 split
 ·exact ag h
 ·refine ac (dn (ac (wpAny_runValue (fW (b:=dy.«proto.let_go») (entryFor_of_tree (by kernel_rfl)) ?_))))
  exact ag (ag h)
 ·exact ag h
set_option tactic.hygienic true in
theorem ST.expr{e:E}(hn:AJ e=true)(h:ET F m V e (fun Z Aa=>K .next m Aa) X):ST F m V (.expr e) K X:=by
 intro ps hc s hs;refine X2lp ps hc.inv fun pe pos he=>?_;have hi:interactive F.env=false:=by unfold interactive;rw [F.fk];rfl
 show wpAny _ _ (exec (.Expr pe pos) F.env) _ _ _;rw [exec_Expr (hi:=hi) (hs:=Iu he hn)];refine ac (dn (ac ((h _ he s hs).out ?_)));intro v Aa Ac Ai Ad u;obtain ⟨a,ra,q⟩:=u;exact let_go ⟨.next,m,Aa,Ai,Ad,trivial,q⟩
end
end
section
variable {S:Sta}
structure Aq where
 tb:List Nat
 n:Nat
 body:List Mine.Internal.S
structure FnEx(S:Sta)(f:Addr)(c:Aq)(o:Obj)(fd:FuncData)(body:List Stmt)(names:List Str):Prop where
 ho:S.g.get? f=some o
 hd:o.data=.func fd
 hb:fd.body=.stmts body
 hcl:fd.closure=[]
 hg:fd.globals=bV
 hbl:fd.builtins=builtinsNs
 hk:fd.scope.kind=.function
 hco:fd.scope.isCoroutine=false
 hgen:fd.scope.isGenerator=false
 hcd:S.g.CodeRec fd.code fd.qualname
 hnl:names.length=c.n
 hbind:∀vals:List Value,vals.length=c.n->bindArgs fd ⟨vals,[]⟩=pure (names.zip vals)
 hnm:∀j x,names[j]?=some x->ixS c.tb x=some j/\(fd.scope.names.lookup x=some .local\/fd.scope.names.lookup x=some .cell)
 hnd:((c7 0 fd.scope.names []).map (·.1)).Nodup
 hcs:CSs c.tb fd.scope.names body c.body
structure IsFn(S:Sta)(f:Addr)(c:Aq):Prop where
 ex:∃(o:Obj)(fd:FuncData)(body:List Stmt)(names:List Str),FnEx S f c o fd body names
noncomputable def View(S:Sta)(N:Addr->Prop)(v:AV)(V:Store)(v':AV)(V':Store):Prop :=
 ∀s u,Inv S N V s->Rep S.cv s.heap (DN N V) v u->Inv S N V' s/\Step noO noO V s V' s/\Rep S.cv s.heap (DN N V') v' u
noncomputable abbrev KX:=Nat->Store->Prop
noncomputable abbrev noX:KX:=fun Z Z=>False
inductive PCv(S:Sta)(N:Addr->Prop)(A:cz)(V:Store)(s:ae)(Q:AV->Store->Prop)(v:Value)(s':ae):Prop
 | mk (av:AV)(V':Store)(st:Step (Frm A) noO V s V' s')(i:Inv S N V' s')(r:Rep S.cv s'.heap (DN N V') av v)(q:Q av V'):PCv S N A V s Q v s'
noncomputable def PCe(S:Sta)(N:Addr->Prop)(A:cz)(V:Store)(s:ae)(X:KX)(e:Value)(s':ae):Prop:=False
noncomputable def CallT(S:Sta)(k:Nat)(f:Value)(avs:List AV)(V:Store)(Q:AV->Store->Prop)(X:KX):Prop :=
 ∀(N:Addr->Prop)(A:cz) vals s,Room S N k A->Inv S N V s->RepL S.cv s.heap (DN N V) avs vals ->
  codeAny (model S.prog S.w) A (.call f ⟨vals,[]⟩) (fun r s'=>match r with
   | .ok (.ret v)=>PCv S N A V s Q v s'
   | .ok _=>False
   | .error e=>PCe S N A V s X e s') s
theorem CallT.mono{k:Nat}{f:Value}{u:List AV}{V:Store}{Q Q':AV->Store->Prop}{X X':KX}(h:CallT S k f u V Q X)(q:∀a V,Q a V->Q' a V)(x:∀c V,X c V->X' c V):CallT S k f u V Q' X' :=
 fun N A U s hr hi rl=>dF (h N A U s hr hi rl) fun r s' z=>by
  cases r with
  | error e=>exact z
  | ok fl =>
   cases fl with
   | ret v=>obtain ⟨av,V',a,b,c,d⟩:=z;exact ⟨av,V',a,b,c,q _ _ d⟩
   | _=>exact z
noncomputable def XF(F:Fx S)(m:Nat->Option AV)(X:KX)(e:Value)(s':ae):Prop:=False
noncomputable def XR(F:Fx S)(X:KX)(e:Value)(s':ae):Prop:=False
theorem XF.up{F:Fx S}{m:Nat->Option AV}{X:KX}{e:Value}{s':ae}(h:XF F m X e s'):XR F X e s':=h
section
variable {F:Fx S}{m:Nat->Option AV}{V:Store}{Q:AV->Store->Prop}
theorem CT.own{k:Nat}{f:Value}{u:List AV}{X:KX}(h:CallT S k f u V Q X)(hk:k<=F.k):CT F m V f u Q (XF F m X):=by
 intro U s hs rl;have room:Room S F.N k F.A:=⟨F.room.hh,F.room.fr,by have:=F.room.dp;exact lin [k,F.k,F.A.depth] [] (.c (.A V2 (.M 2 V0)) Gk) [.B 2 V0 V1,.c (.A V2 (.M 2 V1)) Gk] rfl hk this,by have:=F.room.un;exact lin [k,F.k,F.A.units] [] (.c (.A V2 (.M 20 V0)) BG) [.B 20 V0 V1,.c (.A V2 (.M 20 V1)) BG] rfl hk this⟩
 refine wpAny_call (dF (h F.N F.A U s room hs.inv rl) fun r s' x=>?_)
 cases r with
 | error e =>
  exact x
 | ok fl =>
  cases fl with
  | ret v =>
   obtain ⟨av,V',st,i,r,q⟩:=x;exact ⟨V',st.mono (fun Z h=>h.elim),hs.to st i (fun Z h=>h),av,r,q⟩
  | _=>exact x
end
structure Top(F:Fx S):Prop where
 top:∃l,F.A.frames=some (F.env::l)
 frame:F.env.frame=some F.env.locals
theorem Kh{F:Fx S}{A:cz}{N:Addr->Prop}{X:KX}{e:Value}{s s':ae}{V:Store}{l:List Env}{E:Value->ae->Prop}(hA:F.A.frames=some (F.env::l))(hl:A.frames=some l)(d:F.env.frame=some F.env.locals)
  (hN:F.N=fun a=>N a\/Own F.env a) (hb:F.b=(V,s)) (y:∀a,F.P a->Frm A a\/s.heap.get? a=aa) (u:∀a,N a->∃o,s.heap.get? a=some o) (x:XR F X e s') :
  wpAny (model S.prog S.w) F.A (leaving F.env e) (fun Z=>PCe S N A V s X e) E s':=iq x
noncomputable def LH(avs:List AV):Vars:=fun i=>avs[i]?
theorem Jk{names:List Str}{U:List Value}{x:Str}{v:Value}(h:(x,v)∈names.zip U):∃j:Nat,names[j]?=some x/\U[j]?=some v:=by
 obtain ⟨j,hj,e⟩:=List.mem_iff_getElem.mp h;refine ⟨j,?_,?_⟩<;>simp only [List.getElem_zip,eE] at e<;>simp only [List.length_zip] at hj
 ·rw [aE (by omega),e.1]
 ·rw [aE (by omega),e.2]
theorem bindL_at{z:Str->Option cC}:∀{names:List Str}{U:List Value}(m:Str->Option Value){j:Nat}{x:Str}{v:Value},names.Nodup->names[j]?=some x->U[j]?=some v->z x=some .local->bindL z (names.zip U) m x=some v:=by
 intro names
 induction names with
 | nil=>intro U m j x v _ h;simp at h
 | cons n r ih =>
  intro U m j x v nd hx hv hk
  cases U with
  | nil=>simp at hv
  | cons u us =>
   simp only [List.zip_cons_cons,bindL];rw [bz] at nd
   cases j with
   | zero =>
    simp only [eX,d6] at hx hv;subst hx hv;rw [if_pos hk]
    have:∀(l:List (Str×Value))(m:Str->Option Value),(∀p∈l,p.1≠n)->bindL z l m n=m n:=by
     intro l
     induction l with
     | nil=>intro m _;rfl
     | cons p l ih =>
      intro m hp;obtain ⟨a,b⟩:=p;simp only [bindL];rw [ih _ fun q hq=>hp q (.tail _ hq)]
      split
      ·exact if_neg fun e=>hp (a,b) (.head _) e.symm
      ·rfl
    rw [this _ _ fun p hp e=>nd.1 (by refine X1pp (Jk (x:=p.1) (v:=p.2) hp) fun j h1 Z=>?_;rw [e] at h1;exact af h1)]
    exact if_pos rfl
   | succ j=>exact ih _ nd.2 (by simpa using hx) (by simpa using hv) hk
theorem bindC_at{z:Str->Option cC}:∀{names:List Str}{U:List Value}(m:Str->Option Value){j:Nat}{x:Str}{v:Value},names.Nodup->names[j]?=some x->U[j]?=some v->z x≠some .local->bindC z (names.zip U) m x=some v:=by
 intro names
 induction names with
 | nil=>intro U m j x v _ h;simp at h
 | cons n r ih =>
  intro U m j x v nd hx hv hk
  cases U with
  | nil=>simp at hv
  | cons u us =>
   simp only [List.zip_cons_cons,bindC];rw [bz] at nd
   cases j with
   | zero =>
    simp only [eX,d6] at hx hv;subst hx hv;rw [if_neg hk]
    have:∀(l:List (Str×Value))(m:Str->Option Value),(∀p∈l,p.1≠n)->bindC z l m n=m n:=by
     intro l
     induction l with
     | nil=>intro m _;rfl
     | cons p l ih =>
      intro m hp;obtain ⟨a,b⟩:=p;simp only [bindC];rw [ih _ fun q hq=>hp q (.tail _ hq)]
      split
      ·rfl
      ·exact if_neg fun e=>hp (a,b) (.head _) e.symm
    rw [this _ _ fun p hp e=>nd.1 (by refine X1pp (Jk (x:=p.1) (v:=p.2) hp) fun j h1 Z=>?_;rw [e] at h1;exact af h1)]
    exact if_pos rfl
   | succ j=>exact ih _ nd.2 (by simpa using hx) (by simpa using hv) hk
noncomputable def RetK(S:Sta)(Q:AV->Store->Prop):Fl->Vars->Store->Prop:=fun fl Z V=>∀N:Addr->Prop,∃v' V',View S N (match fl with | .ret v=>v | .next=>.none) V v' V'/\Q v' V'
inductive PB(F:Fx S)(Q:AV->Store->Prop)(f:Flow)(s':ae):Prop
 | mk (fl:Fl)(m':Vars)(V':Store)(h:F.St m' V' s')(r:FlR S.cv s'.heap (F.D V') f fl)(k:RetK S Q fl m' V'):PB F Q f s'
theorem CallT.body0{k:Nat}{f:Addr}{c:Aq}{avs:List AV}{V:Store}{Q:AV->Store->Prop}{X:KX}(hf:IsFn S f c)(hn:avs.length=c.n)
  (h:∀(F:Fx S),F.k=k->Top F->∀Y:Value->ae->Prop,(∀e s,XR F X e s->Y e s)->hW (model S.prog S.w) F.A F.env Y->∀ps,CSs F.tb F.sc ps c.body->∀s,F.St (LH avs) V s->wpAny (model S.prog S.w) F.A (execs ps F.env) (PB F Q) Y s):CallT S (k+1) (.ref f) avs V Q X:=by
 intro N A B s O hi rl;refine X4p hf.ex fun o fd body names Z4=>?_;obtain ⟨ho,hd,hb,hcl,hg,hbl,hk,hco,hgen,hcd,hnl,hbind,hnm,hnd,hcs⟩:=Z4;have hlen:B.length=c.n:=rl.length.trans hn;have hkind:∀x∈names.zip B,fd.scope.names.lookup x.1=some .local\/(fd.scope.names.lookup x.1=some .cell/\((c7 (s.heap.objs.size+1) fd.scope.names []).lookup x.1).isSome=true):=by
  intro hR1 hx;obtain ⟨x,v⟩:=hR1;refine X1pp (Jk hx) fun j h1 Z=>?_
  rcases (hnm j x h1).2 with q | q
  ·exact .inl q
  ·exact .inr ⟨q,fe _ _ _ (.inl q)⟩
 refine codeAny_call_cells (fd:=fd) (body:=body) (binds:=names.zip B) (by have:=O.dp;unfold recursionLimit;exact lin [A.depth,k] [] (.c V0 AE) [.c (.A V0 (.M 2 (.A V1 K1))) Gk] rfl this) (hi.keep _ _ ho) hd (S.lim.keeps hi.keep) (hcd.keeps hi.keep) hb (hbind B hlen) hcl hkind (fun Ac hin=>?_) hco hgen hk
 refine X2pp hin.done fun Ad tk Ag hkeep=>?_;have envL:(cN fd s.heap.objs.size f).locals=s.heap.objs.size:=rfl;have U:∀a,s.heap.objs.size<=a->s.heap.get? a=aa:=fun a ha=>by
  cases q:s.heap.get? a with
  | none=>rfl
  | some o=>exact absurd (bh q) (cO.mpr ha)
 have T:∀a,Own (cN fd s.heap.objs.size f) a->s.heap.get? a=aa:=by
  rintro a (rfl | ⟨x,hx⟩)
  ·exact U _ (ay _)
  ·exact U _ (cK (hin.above x a (mem_of_lookup hx)))
 have hnod:names.Nodup:=by
  rw [List.nodup_iff_pairwise_ne,List.pairwise_iff_getElem];intro i j hi hj hij e;have h1:=(hnm i _ (aE hi)).1;have h2:=(hnm j _ (aE hj)).1;rw [e,h2] at h1
  have:=ar h1
  exact lin [i,j] [] .no [.c V0 V1,.d V1 V0] rfl hij this
 have er:Ext (DN N V) s.heap Ac.heap:=Ext.of_keeps (by rw [Ag];exact hkeep)
 have room':Room S (fun a=>N a\/Own (cN fd s.heap.objs.size f) a) k (A.deeper (cN fd s.heap.objs.size f)):=by
  refine ⟨O.hh,?_,?_,?_⟩
  ·refine X1pp O.fr fun l el hl=>?_
   refine ⟨cN fd s.heap.objs.size f::l,?_,?_⟩
   ·show (A.frames.map (cN fd s.heap.objs.size f::·))=_;rw [el];rfl
   ·intro e he
    rcases aD.mp he with rfl | he
    ·exact ⟨by show fd.scope.kind≠_;rw [hk];simp,s.heap.objs.size,rfl,.inr (.inl rfl),hi.not_g (U _ (ay _))⟩
    ·refine Ao (hl e he) fun h1 Z0=>?_
     refine X1ppp Z0 fun L h2 h3 h4=>?_;exact ⟨h1,L,h2,.inl h3,h4⟩
  ·have:=O.dp;show A.depth+1+2 * k<900;exact lin [A.depth,k] [] (.c (.A (.A V0 K1) (.M 2 V1)) Gk) [.c (.A V0 (.M 2 (.A V1 K1))) Gk] rfl this
  ·have:=O.un;show A.units+3+20 * k<9000;exact lin [A.units,k] [] (.c (.A (.A V0 K3) (.M 20 V1)) BG) [.c (.A V0 (.M 20 (.A V1 K1))) BG] rfl this
 have fc':∀x,(cN fd s.heap.objs.size f).kindOf x=some .cell->∃c,(cN fd s.heap.objs.size f).cells.lookup x=some c:=fun x hx =>
  cf.mp (fe (x:=x) fd.scope.names (s.heap.objs.size+1) [] (.inl hx))
 have hPn:∀a,Frm (A.deeper (cN fd s.heap.objs.size f)) a->Frm A a\/s.heap.get? a=aa:=by
  intro a hR1;refine X1pp hR1 fun l el Z1=>?_;refine X1pp Z1 fun e he hf=>?_;refine X1pp O.fr fun l' el' Z=>?_
  have:l=cN fd s.heap.objs.size f::l':=by
   have q:A.frames.map (cN fd s.heap.objs.size f::·)=some l:=el;rw [el'] at q;exact (ar q).symm
  clear el Z1;subst this
  rcases aD.mp he with rfl | he
  ·exact .inr (by have q:some s.heap.objs.size=some a:=hf;cases q;exact U _ (ay _))
  ·exact .inl ⟨l',el',e,he,hf⟩
 have hPN:∀a,Frm (A.deeper (cN fd s.heap.objs.size f)) a->N a\/Own (cN fd s.heap.objs.size f) a:=by
  intro a hR1;refine X1pp hR1 fun l el Z2=>?_;refine X1pp Z2 fun e he hf=>?_;refine X1pp room'.fr fun l2 el2 h2=>?_;rw [el2] at el;cases el;refine Ao (h2 e he) fun Z Z3=>?_;refine X1ppp Z3 fun L h3 h4 Z=>?_;rw [hf] at h3;cases h3;exact h4
 let Fc:Fx S:=⟨A.deeper (cN fd s.heap.objs.size f),c.tb,cN fd s.heap.objs.size f,(V,s),(fun a=>N a\/Own (cN fd s.heap.objs.size f) a),k,room',hk,hg,hbl,fc'⟩
 have hD:∀b,DN Fc.N V b->DN N V b\/s.heap.get? b=aa:=fun b hb=>hb.elim (fun q=>.inl (.inl q)) fun q=>q.elim (fun q=>.inl (.inr q)) fun q=>.inr (T b q);have st:Fc.St (LH avs) V Ac:=by
  refine ⟨⟨?_,?_,?_,?_,hi.σg,(fun a d q=>q.elim (hi.σN a d) fun q=>by refine X1p (hi.dom_there d) fun ob e=>?_;rw [T a q] at e;cases e),fun a q=>?_,fun a oa e=>(hi.rep a oa e).ext er hD (by rw [Ag];exact hkeep a)⟩,
   ⟨_,_,hin.toInCall.ns,hin.cell,fun a ha=>⟨hi.not_dom (T a ha),hi.not_g (T a ha)⟩,fun x y cc h1 h2=>name_of_addr hin.apart (mem_of_lookup h1) (mem_of_lookup h2),fun x cc h1=>e7 (hin.above x cc (mem_of_lookup h1)),fun x i av hx hm=>?_⟩,
   Step.of_keeps (by rw [Ag];exact hkeep) (fun Z h=>.inl h),hPN,T,fun a ha=>.inr ha,fun a e=>hi.not_g e⟩
  ·rw [Ag];exact fun b ob e=>hkeep b ob (hi.keep b ob e)
  ·rw [Ag];exact hi.gens
  ·rw [Ag];exact hi.drawn
  ·rw [Ag];exact hi.os
  ·rcases q with q | rfl | ⟨x,hx⟩
   ·refine X1pp (hi.Nin a q) fun ob e nf=>?_;rw [Ag];exact ⟨ob,hkeep a ob e,nf⟩
   ·refine X3ppp hin.toInCall.ns fun ob Z Z e dd Z=>?_;exact ⟨ob,e,fun vs z=>by rw [dd] at z;cases z⟩
   ·refine X1pp (hin.cell x a hx) fun ob e dd=>?_;exact ⟨ob,e,fun vs z=>by rw [dd] at z;cases z⟩
  ·refine X1pp (rl.get hm) fun v hv rv=>?_
   have hin':i<names.length:=by
    have:i<B.length:=by
     rcases bJ i B.length with q | q
     ·exact q
     ·rw [ba q] at hv;cases hv
    exact lin [names.length,c.n,B.length,i] [] (.c V3 V0) [.D (-1) V0 V1,.d V2 V1,.c V3 V2] rfl hnl hlen this
   have hxi:=aE hin';have hxx:names[i]=x:=BK (hnm i _ hxi).1 hx;rw [hxx] at hxi;have rv':Rep S.cv Ac.heap (DN Fc.N V) av v:=rv.ext er hD;have kd:(cN fd s.heap.objs.size f).kindOf x=fd.scope.names.lookup x:=rfl
   rcases (hnm i x hxi).2 with q | q
   ·show LocAt _ _ _ _ _ _ ((cN fd s.heap.objs.size f).kindOf x) _ _
    rw [kd,q];exact ⟨v,bindL_at _ hnod hxi hv (kd.trans q),rv'⟩
   ·show LocAt _ _ _ _ _ _ ((cN fd s.heap.objs.size f).kindOf x) _ _
    rw [kd,q];refine X1p (cf.mp (fe (x:=x) fd.scope.names (s.heap.objs.size+1) [] (.inl q))) fun cc hcc=>?_;exact ⟨v,cc,hcc,bindC_at _ hnod hxi hv (by rw [kd,q];simp),rv'⟩
 refine X1pp O.fr fun lf elf Z=>?_;have top:Fc.A.frames=some (Fc.env::lf):=by show (A.frames.map (cN fd s.heap.objs.size f::·))=_;rw [elf];rfl
 have hbody:=h Fc rfl ⟨⟨lf,top⟩,rfl⟩;have hcs':CSs Fc.tb Fc.sc body c.body:=hcs;refine aV (hbody _ (fun e s' hx=>Kh (N:=N) top elf rfl rfl rfl hPn (fun a q=>by refine X1pp (hi.Nin a q) fun o e Z=>?_;exact ⟨o,e⟩) hx) PassesOwn.leaving _ hcs' Ac st) (fun fl s' hq=>?_) fun e s' hx=>hx
 obtain ⟨fl',m',V',h',hfr,hret⟩:=hq;refine X2pp (hret N) fun v' V'' hview hQ=>?_
 have hi':Inv S N V' s':=⟨h'.inv.keep,h'.inv.gens,h'.inv.drawn,h'.inv.os,h'.inv.σg,fun a d q=>h'.inv.σN a d (.inl q),fun a q=>h'.inv.Nin a (.inl q),
  fun a oa e=>(h'.inv.rep a oa e).ext (Ext.refl _ _) (fun b q=>.inl (q.imp id .inl)) fun Z q=>q⟩
 have fin:∀u,Rep S.cv s'.heap (DN Fc.N V') (match fl' with | .ret v=>v | .next=>.none) u->PCv S N A V s Q u s':=by
  intro u ru;refine Bp (hview s' u hi' (ru.less fun a q=>q.imp id .inl)) fun i2 st2 r2=>?_;exact ⟨v',V'',(Step.narrow h'.frm hPn).trans st2.any,i2,r2,hQ⟩
 cases fl' with
 | next =>
  cases fl with
  | next=>exact fin .none .none
  | _=>exact hfr.elim
 | ret v =>
  cases fl with
  | ret u=>exact fin u hfr
  | _=>exact hfr.elim
theorem CallT.body{k:Nat}{f:Addr}{c:Aq}{u:List AV}{V:Store}{Q:AV->Store->Prop}{X:KX}(hf:IsFn S f c)(hn:u.length=c.n)
  (h:∀(F:Fx S),F.k=k->Top F->∀Y:Value->ae->Prop,(∀e s,XR F X e s->Y e s)->hW (model S.prog S.w) F.A F.env Y->SsT F (LH u) V c.body (RetK S Q) Y):CallT S (k+1) (.ref f) u V Q X :=
 CallT.body0 hf hn fun F hk ht Y y1 y2 ps hc s hs=>aV (h F hk ht Y y1 y2 ps hc s hs) (fun _ _ ⟨fl,m',V',_,h1,h2,h3⟩=>⟨fl,m',V',h1,h2,h3⟩) fun Z Z e=>e
end
section
variable {S:Sta}
noncomputable def Its(h:Heap)(W:Addr->Prop):Prop:=∀a,W a->∃o,h.get? a=some o/\Dd o
theorem Its.seq{h:Heap}{W:Addr->Prop}(x:Its h W){a:Addr}{o:Obj}(e:h.get? a=some o)(hd:∀vs,o.data≠.fields vs):¬W a:=fun q=>by
 refine X1ppp (x a q) fun o' e' Z Z0=>?_;refine X1p Z0 fun vs hv=>?_;rw [e] at e';cases e';exact hd vs hv
theorem Its.turn{h h':Heap}{D W:Addr->Prop}(it:Its h W)(k:∀b o,¬W b->h.get? b=some o->h'.get? b=some o)(b:Addr)(o:Obj)(e:h.get? b=some o)(hd:¬Dd o)(d:¬D b):h'.get? b=some o/\¬D b :=
 ⟨k b o (fun q=>by refine X1pp (it b q) fun o' e' h'=>?_;exact hd (ar (e'.symm.trans e)▸h')) e,d⟩
section
variable {cv:Nat->Value}{h h':Heap}{D W:Addr->Prop}
theorem Rep.it(it:Its h W)(k:∀b o,¬W b->h.get? b=some o->h'.get? b=some o){av:AV}{v:Value}(r:Rep cv h D av v):Rep cv h' D av v :=
 r.turn (it.turn k)
theorem RepL.it(it:Its h W)(k:∀b o,¬W b->h.get? b=some o->h'.get? b=some o){av:List AV}{v:List Value}(r:RepL cv h D av v):RepL cv h' D av v :=
 r.turn (it.turn k)
theorem RepD.it(it:Its h W)(k:∀b o,¬W b->h.get? b=some o->h'.get? b=some o){av:List (Af×AV)}{v:List aO}(r:RepD cv h D av v):RepD cv h' D av v :=
 r.turn (it.turn k)
theorem RepF.it(it:Its h W)(k:∀b o,¬W b->h.get? b=some o->h'.get? b=some o){av:List (Str×AV)}{v:List aO}(r:RepF cv h D av v):RepF cv h' D av v :=
 r.turn (it.turn k)
theorem RepO.it(it:Its h W)(k:∀b o,¬W b->h.get? b=some o->h'.get? b=some o){o:AObj}{a:Addr}(r:RepO cv h D o a):RepO cv h' D o a:=by
 induction r with
 | list e r=>exact .list (k _ _ (it.seq e (by intro _ h;cases h)) e) (r.it it k)
 | dict e sm n r=>exact .dict (k _ _ (it.seq e (by intro _ h;cases h)) e) sm n (r.it it k)
 | inst e n=>exact .inst (k _ _ (it.seq e (by intro _ h;cases h)) e) n
 | attrs e r=>exact .attrs (k _ _ (it.seq e (by intro _ h;cases h)) e) (r.it it k)
end
structure ItStep(W:Addr->Prop)(s s':ae):Prop where
 keep:∀b o,¬W b->s.heap.get? b=some o->s'.heap.get? b=some o
 rest:s'.gens=s.gens/\s'.drawn=s.drawn/\s'.os=s.os
theorem St.it{tb:List Nat}{env:Env}{N P W:Addr->Prop}{b:Store×ae}{m:Vars}{V:Store}{s s':ae}(hs:Mine.Internal.St S tb env N P b m V s)(it:Its s.heap W)
  (new:∀a,W a->b.2.heap.get? a=aa) (hN:∀a,W a->¬N a) (st:ItStep W s s'):Mine.Internal.St S tb env N P b m V s':=by
 obtain ⟨mc,cm,n,c,ow,ap,cl,r⟩:=hs.loc;have nI:∀a,Own env a->¬W a:=by
  rintro a (rfl | ⟨x,hx⟩)
  ·refine X3ppp n fun o es ep e d Z=>?_;exact it.seq e (by rw [d];intro _ h;cases h)
  ·refine X1pp (c x a hx) fun o e d=>?_;exact it.seq e (by rw [d];intro _ h;cases h)
 refine ⟨⟨fun a o e=>st.keep a o (fun q=>by rw [hs.gb a (new a q)] at e;cases e) (hs.inv.keep a o e),st.rest.1.trans hs.inv.gens,st.rest.2.1.trans hs.inv.drawn,st.rest.2.2.trans hs.inv.os,hs.inv.σg,hs.inv.σN,fun a h=>?_,fun a o e=>(hs.inv.rep a o e).it it st.keep⟩,?_,?_,hs.pN,hs.new,hs.own,hs.gb⟩
 ·refine X1pp (hs.inv.Nin a h) fun o e nf=>?_;exact ⟨o,st.keep a o (fun q=>hN a q h) e,nf⟩
 ·refine ⟨mc,cm,?_,fun x cc hx=>?_,ow,ap,cl,fun x i av hx hm=>?_⟩
  ·refine X3pp n fun o es ep e d=>?_;exact ⟨o,es,ep,st.keep _ _ (nI _ (.inl rfl)) e,d⟩
  ·refine X1pp (c x cc hx) fun o e d=>?_;exact ⟨o,st.keep _ _ (nI _ (.inr ⟨x,hx⟩)) e,d⟩
  ·exact LocAt.map (r x i av hx hm) (fun h2=>h2.it it st.keep) (fun Z h1=>h1) (fun Z h1=>h1)
 ·exact hs.frm.over fun c e o=>st.keep c o fun z=>e.elim fun o e=>Ak (new c z) e
structure Walk(F:Fx S)(I:Addr)(items:List AV)(t:ai)(W:Addr->Prop)(J:Nat->Store->ae->Prop)(ok:Store->Store->Prop):Prop where
 its:∀i V s,J i V s->Its s.heap W
 stays:∀i m m' V s V' s' (O:Addr->Prop),(∀a,O a->F.N a)->(∀a,W a->¬F.N a)->J i V s->F.St m V s->Step F.P O V s V' s'->F.St m' V' s'->ok V V'->J i V' s'
 next:∀i x m V s (Gg:ae->Prop) (Q:Value->ae->Prop) (X:Value->ae->Prop),items[i]?=some x->F.St m V s->J i V s ->
  (∀v Aj,ItStep W s Aj->Rep S.cv Aj.heap (F.D V) x v->J (i+1) V Aj->Q v Aj) ->
  wpAny (model S.prog S.w) F.A (pyNext (.ref I)) (fun r Ac=>match r with
   | none=>Gg Ac
   | some v=>wpAny (model S.prog S.w) F.A (letOwnedTupleGo t (.ref I) v) (fun Z Aj=>Q v Aj) X Ac) X s
 self:∀i V s (Q:Value->ae->Prop) (X:Value->ae->Prop),J i V s->Q (.ref I) s->wpAny (model S.prog S.w) F.A (pyIter (.ref I)) Q X s
 done:∀m V s (Q:Option Value->ae->Prop) (X:Value->ae->Prop),F.St m V s->J items.length V s->(∀Ac,ItStep W s Ac->Q none Ac)->wpAny (model S.prog S.w) F.A (pyNext (.ref I)) Q X s
set_option tactic.hygienic true in
noncomputable def LV(F:Fx S)(p:Pat)(body:List Mine.Internal.S)(ok:Store->Store->Prop)(K:Fl->Vars->Store->Prop)(X:Value->ae->Prop):List AV->Vars->Store->Prop
 | [],m,V=>K .next m V
 | x::r,m,V=>PT F m V p x (fun Am Aa=>SsT F Am Aa body (fun fl As Ab=>match fl with
   | .next=>ok V Ab/\LV F p body ok K X r As Ab
   | .ret v=>K (.ret v) As Ab) X) X
section
variable {F:Fx S}{V:Store}{X:Value->ae->Prop}{K:Fl->Vars->Store->Prop}
inductive FInv(F:Fx S)(p:Pat)(body:List Mine.Internal.S)(ok:Store->Store->Prop)(K:Fl->Vars->Store->Prop)(X:Value->ae->Prop)(items:List AV)(J:Nat->Store->ae->Prop)(Ay:Store)(AH:ae)(n:Nat)(s':ae):Prop
 | mk (i:Nat)(m':Vars)(V':Store)(hn:n+i=items.length+1)(hi:i<=items.length)(st:Step F.P F.O Ay AH V' s')(h:F.St m' V' s')(hJ:J i V' s')(l:LV F p body ok K X (items.drop i) m' V'):FInv F p body ok K X items J Ay AH n s'
set_option tactic.hygienic true in
theorem forLoopT{I:Addr}{items:List AV}{t:ai}{W:Addr->Prop}{J:Nat->Store->ae->Prop}{ok:Store->Store->Prop}{p:Pat}{body:List Mine.Internal.S}{pb:List Stmt}{m:Vars}{AH s:ae}{Ay:Store}
  (Wk:Walk F I items t W J ok) (hX:hW (model S.prog S.w) F.A F.env X) (hp:CP F.tb F.sc t p) (hb:CSs F.tb F.sc pb body) (new:∀a,W a->AH.heap.get? a=aa)
  (st:Step F.P F.O Ay AH V s) (hs:F.St m V s) (bN:∀a,W a->F.b.2.heap.get? a=aa) (hN:∀a,W a->¬F.N a) (hJ:J 0 V s) (h:LV F p body ok K X items m V) :
  codeAny (model S.prog S.w) F.A (.forLoop t (.ref I) pb [] F.env) (fun r s'=>match r with
   | .ok f=>PS F Ay AH K f s'
   | .error e=>cameBackBy (model S.prog S.w) F.A F.env X e s') s:=by
 refine codeAny_forLoop_any (FInv F p body ok K X items J Ay AH) ?_ (items.length+1) ⟨0,m,V,rfl,cI _,st,hs,hJ,h⟩;intro n Ac T;obtain ⟨i,Am,Aa,hn,hi,Ai,Ad,DM,hl⟩:=T;have its:=Wk.its i Aa Ac DM;have stp:∀{Aj:ae},ItStep W Ac Aj->Step F.P F.O Ay AH Aa Aj:=fun q=>Ai.over fun c e o=>q.keep c o fun z=>e.elim fun o e=>Ak (new c z) e
 by_cases U:i<items.length
 ·obtain ⟨x,hx⟩:∃x,items[i]?=some x:=⟨_,aE U⟩
  have hd:items.drop i=x::items.drop (i+1):=by
   rw [List.drop_eq_getElem_cons U];rw [aE U] at hx
   cases hx;rfl
  rw [hd] at hl;refine Wk.next i x Am Aa Ac _ _ _ hx Ad DM fun v Aj y rv HM=>?_;have Ah:F.St Am Aa Aj:=Ad.it its bN hN y;refine fX hX (aV (hl t hp v Aj Ah rv) ?_ fun Z Z e=>e);intro _ BB T;obtain ⟨m₃,Ap,A0,AI,hq⟩:=T;refine fX hX (aV (hq pb hb BB AI) ?_ fun Z Z e=>e);intro f Bw T;obtain ⟨fl,m₄,Cd,BM,Bx,hf,B⟩:=T;have Y:=((stp y).trans A0).trans BM
  cases fl with
  | next =>
   cases f with
   | next=>exact ⟨n - 1,by exact lin [n - 1,n] [] (.c V0 V1) [.d (.A V0 K1) V1] rfl (an (lin [n,i,items.length] [] (.b K1 V0) [.D (-1) (.A V0 V1) (.A V2 K1),.c V1 V2] rfl hn U)),i+1,m₄,Cd,by exact aw (lin [n,i,items.length,n - 1] [] (.b (.A V3 (.A V1 K1)) (.A V2 K1)) [.d (.A V0 V1) (.A V2 K1),.d (.A V3 K1) V0] rfl hn (an (lin [n,i,items.length] [] (.b K1 V0) [.D (-1) (.A V0 V1) (.A V2 K1),.c V1 V2] rfl hn U))) (lin [n,i,items.length,n - 1] [] (.b (.A V2 K1) (.A V3 (.A V1 K1))) [.D (-1) (.A V0 V1) (.A V2 K1),.b V0 (.A K1 V3)] rfl hn (aq.mp (ay ((n) - (1))))),U,Y,Bx,Wk.stays _ _ _ _ _ _ _ F.O Ah.own hN HM Ah (A0.trans BM) Bx B.1,B.2⟩
   | _=>exact hf.elim
  | ret v =>
   cases f with
   | ret u=>exact ⟨.ret v,m₄,Cd,Y,Bx,hf,B⟩
   | _=>exact hf.elim
 ·have hi':i=items.length:=by exact aw (lin [i,items.length] [] (.b V0 V1) [.b V0 V1] rfl hi) (lin [i,items.length] [] (.b V1 V0) [.j V0 V1] rfl U)
  clear hn hi U;subst hi';rw [List.drop_length] at hl;refine Wk.done Am Aa Ac _ _ Ad DM fun Aj y=>?_;exact wpAny_execs_nil ⟨.next,Am,Aa,stp y,Ad.it its bN hN y,trivial,hl⟩
end
end
section
set_option backward.match.sparseCases true
variable {S:Sta}
set_option tactic.hygienic true in
theorem Bc{A:cz}{X:Value->ae->Prop}{t:ai}{I:Addr}{v:Value}{s:ae}{o:Obj}{T:String}{Q:Unit->ae->Prop}(ho:s.heap.get? I=some o)(hc:o.cls=.type T)
  (hn:["enumerate", "zip", "dict_itemiterator", "dict_reverseitemiterator", "odict_iterator", "itertools.zip_longest", "itertools.pairwise"].contains T=false) (h:Q () s) :
  wpAny (model S.prog S.w) A (letOwnedTupleGo t (.ref I) v) Q X s:=by
 have u:wpAny (model S.prog S.w) A (do
  let (.ref r,.ref a):=((cE I,v):Value×Value) | return
  let o <- load r
  match o.cls,o.data with
  | .type n,.fields vs =>
   if ["enumerate", "zip", "dict_itemiterator", "dict_reverseitemiterator", "odict_iterator", "itertools.zip_longest", "itertools.pairwise"].contains n && vs[0]? == some (gt a) then
    rule "for.unpacks-the-owned-tuple"
    updateField r 0 .none
  | _,_=>pure ()) Q X s:=by
  cases v with
  | ref a =>
   refine ac (wpAny_load ho ?_);rw [hc]
   split
   ·rename_i n vs q1 q2
    cases q1
    rw [hn,Bool.false_and,if_neg aH];exact ag h
   ·exact ag h
  | _=>exact ag h
 cases t<;>first | exact u | exact ag h
theorem Its.notDom{N W:Addr->Prop}{V:Store}{s:ae}(x:Its s.heap W)(hi:Inv S N V s){a:Addr}(q:W a):¬Dom V a:=fun d=>by
 cases e:V a with
 | none=>exact d e
 | some o =>
  cases hi.rep a o e with
  | list e _=>exact x.seq e (by intro _ h;cases h) q
  | dict e _ _ _=>exact x.seq e (by intro _ h;cases h) q
  | inst e _=>exact x.seq e (by intro _ h;cases h) q
  | attrs e _=>exact x.seq e (by intro _ h;cases h) q
section
variable {F:Fx S}{m m':Vars}{V V':Store}{s s':ae}{X:Value->ae->Prop}{Q:AV->Store->Prop}
theorem Its.notOwn{W:Addr->Prop}(x:Its s.heap W)(hs:F.St m V s){a:Addr}(q:W a):¬F.O a:=by
 obtain ⟨mc,cm,n,c,_⟩:=hs.loc
 rintro (rfl | ⟨y,hy⟩)
 ·refine X3ppp n fun o es ep e d Z=>?_;exact x.seq e (by rw [d];intro _ h;cases h) q
 ·refine X1pp (c y a hy) fun o e d=>?_;exact x.seq e (by rw [d];intro _ h;cases h) q
theorem Its.still{O W:Addr->Prop}(x:Its s.heap W)(hs:F.St m V s)(hO:∀a,O a->F.N a)(hN:∀a,W a->¬F.N a)(st:Step F.P O V s V' s'){a:Addr}(q:W a){o:Obj}(e:s.heap.get? a=some o):s'.heap.get? a=some o :=
 st.ext.obj a o e (fun d=>d.elim (x.notDom hs.inv q) fun z=>hN a q (z.elim (hO a) (hs.pN a)))
noncomputable def Moves(F:Fx S)(V:Store)(Ac:ae)(J:Fx S->Nat->Store->ae->Prop):Prop :=
 ∀(AS:Fx S)(Ab:Store)(Aj:ae),(∀b o,Ac.heap.get? b=some o->Aj.heap.get? b=some o)->(∀b,AS.D Ab b->F.D V b\/Ac.heap.get? b=aa)->(∀b o,V b=some o->Ab b=some o)->J AS 0 Ab Aj
theorem Moves.here{J:Fx S->Nat->Store->ae->Prop}(h:Moves F V s J):J F 0 V s:=h F V s (fun Z Z e=>e) (fun Z d=>.inl d) fun Z Z e=>e
inductive PIter(F:Fx S)(V:Store)(s:ae)(items:List AV)(ok:Store->Store->Prop)(t:ai)(it:Value)(Ac:ae):Prop
 | mk (I:Addr) (W:Addr->Prop) (J:Fx S->Nat->Store->ae->Prop) (hit:it=.ref I) (wk:∀AS:Fx S,Walk AS I items t W (J AS) ok) (kp:∀b o,s.heap.get? b=some o->Ac.heap.get? b=some o) (hs:∃h' tk,Ac={ s with heap:=h',toks:=tk })
  (nw:∀a,W a->s.heap.get? a=aa) (mv:Moves F V Ac J):PIter F V s items ok t it Ac
noncomputable def IterT(F:Fx S)(V:Store)(a:AV)(items:List AV)(ok:Store->Store->Prop):Prop :=
 ∀m va s t (X:Value->ae->Prop),F.St m V s->Rep S.cv s.heap (F.D V) a va->wpAny (model S.prog S.w) F.A (pyIter va) (PIter F V s items ok t) X s
noncomputable def okL(a:AV)(V V':Store):Prop:=match a with
 | .loc ad _=>V' ad=V ad
 | _=>True
theorem okL_dl{a:AV}{l:List AV}(h:dl V a=some l)(o:okL a V V'):dl V' a=some l:=by
 cases a with
 | loc ad ii=>exact (congrArg (·.bind AObj.list?) (show V' ad=V ad from o)).trans h
 | _=>exact h
theorem IterT.list(hq:S.hx=aa){a:AV}{l:List AV}(h:dl V a=some l):IterT F V a l (okL a):=by
 intro m va s t X hs ra;refine X3ppp (ra.lst hs.inv h) fun ad vs n Z0 e rl=>?_;subst Z0;have hL:s.heap.IsList ad vs.toArray:=⟨_,e,rfl,n,rfl⟩;refine ff hL ⟨s.heap.objs.size,(·=s.heap.objs.size),fun AS i V' s'=>s'.heap.IsListIter s.heap.objs.size ad i/\Rep S.cv s'.heap (AS.D V') a (.ref ad)/\dl V' a=some l,rfl,?_,Aw _ _,⟨_,_,rfl⟩,fun b q=>by rw [q];exact Ax _,?_⟩
 ·have T:∀i (s':ae),s'.heap.IsListIter s.heap.objs.size ad i->Its s'.heap (·=s.heap.objs.size):=by
   intro i s' hR1 b hR2;refine X1ppp hR1 fun o e c d=>?_;subst hR2;exact ⟨o,e,⟨_,c,by decide⟩,_,d⟩
  intro AS;refine ⟨fun i V' s' hJ=>T i s' hJ.1,fun i Am As Aa Ac Ab Aj O hO hN hJ Ad st Ah o=>⟨?_,hJ.2.1.step st hO Ad.pN,okL_dl hJ.2.2 o⟩,fun i x Am Aa Ac Gg Q X hx Ad hJ hQ=>?_,fun i Aa Ac Q X hJ hQ=>wpAny_pyIter_listiter hJ.1 hQ,fun Am Aa Ac Q X Ad hJ hQ=>?_⟩
  ·have z:=T i Ac hJ.1
   refine X1ppp hJ.1 fun o e c d=>?_;exact ⟨o,z.still Ad hO hN st rfl e,c,d⟩
  ·refine Bp hJ fun u U hl=>?_
   refine X3ppp (U.lst Ad.inv hl) fun ad' ws n' e1 e' B=>?_
   cases e1
   refine X1pp (B.get hx) fun v hv rv=>?_;have z:=T i Ac u;refine wpAny_pyNext_list_item u (items:=ws.toArray) ⟨_,e',rfl,n',rfl⟩ (x:=v) (by simpa using hv) fun h' y hsb=>?_
   have Y:ItStep (·=s.heap.objs.size) Ac { Ac with heap:=h' }:=⟨fun b o q e=>hsb.extBut b o q e,rfl,rfl,rfl⟩
   refine X1ppp (id y) fun o eo co Z=>?_;refine Bc eo co (by decide) (hQ v _ Y (rv.it z Y.keep) ⟨y,U.it z Y.keep,hl⟩)
  ·refine Bp hJ fun u U hl=>?_
   refine X3ppp (U.lst Ad.inv hl) fun ad' ws n' e1 e' B=>?_
   cases e1
   exact wpAny_pyNext_list_end (AS.room.quiet hq) u (items:=ws.toArray) ⟨_,e',rfl,n',rfl⟩ (by simp [B.length]) fun h' he=>hQ _ ⟨fun b o q e=>he b o q e,rfl,rfl,rfl⟩
 ·intro AS Ab Aj kp hD ks
  refine ⟨⟨_,kp _ _ (aF _ rfl),rfl,rfl⟩,?_,?_⟩
  ·refine Ao (hs.grow (Aw s.heap { cls:=.type "list_iterator",data:=.fields #[.ref ad,.int 0 0] }) s.toks) fun h1 st=>?_
   exact (ra.st st.any h1).ext (Ext.of_keeps kp) hD
  ·cases a with
   | loc ad' ii =>
    refine X1pp (AG (show (V ad').bind AObj.list?=some l from h)) fun o e' h'=>?_
    exact (congrArg (·.bind AObj.list?) (ks _ _ e')).trans h'
   | _=>exact h
noncomputable def AU(a c:Int)(n:Nat):List AV:=(bt n).map fun i:Nat=>AV.int (a+c * (i:Int))
end
end
section
variable {S:Sta}
section
variable {A:cz}{E:Value->ae->Prop}{s:ae}
noncomputable def DictE(h:Heap)(d:Addr)(es:Array aO)(ep:Nat):Prop:=h.get? d=some (AP es ep)
theorem DictE.typeIs{d:Addr}{es:Array aO}{ep:Nat}(x:DictE s.heap d es ep):s.TypeIs (.ref d) "dict":=⟨_,x,rfl⟩
theorem H5{d:Addr}{es:Array aO}{ep:Nat}{Q:Value->ae->Prop}(hd:(d == cp)=false)(hm:DictE s.heap d es ep)
  (hQ:Q (.ref s.heap.objs.size) { s with heap:=s.heap.push { cls:=.type "dict_keyiterator",data:=.fields #[.ref d,.int 0 0,.int es.size 0,.int ep 0] } }) :
  wpAny (model S.prog S.w) A (pyIter (.ref d)) Q E s:=by
 have hT:=hm.typeIs;refine wpAny_pyIter_slot hT fh (cJ fh hT PySem.F.entry_dict_iter ?_ (PySem.F.args_dict_iter_1 _));unfold dy.«dict.__iter__»;refine ac ?_;unfold Builtin.Dict.dictSlotNone;refine ac (cF hT ?_);show wpAny _ _ (pure (cE d)) _ _ s;refine ag ?_;show wpAny _ _ (d4 d >>= _) _ _ s;unfold d4;rw [if_neg (by rw [hd];exact aH)]
 refine ac (ag ?_);refine ac (bG hm rfl ?_);refine ac (eK hm rfl ?_);refine ac (bY (ag ⟨_,rfl, "dict_keyiterator",_,⟨_,aF _ rfl,rfl⟩,b9.lookup,?_⟩))
 simpa [gt] using hQ
theorem H4{it d:Addr}{i ep:Nat}{es:Array aO}{e:aO}{Q:Option Value->ae->Prop}(u:s.heap.IsKeyIter it d i es.size ep)
  (hm:DictE s.heap d es ep) (hx:es[i]?=some e)
  (hQ:∀h',h'.IsKeyIter it d (i+1) es.size ep->ir it s.heap h'->Q (some e.key) { s with heap:=h' }) :
  wpAny (model S.prog S.w) A (pyNext (.ref it)) Q E s:=by
 refine X1ppp (id u) fun o ho hc hd=>?_;unfold pyNext
 refine ac (gQ (dJ (name:=bX "__next__") u.typeIs b9
  (cJ b9 u.typeIs eG ?_ (eB _))))
 refine ac (ag ?_);refine ac ?_;refine ac ?_
 first | refine ac (c6 u.typeIs (ag ?_)) | refine ac (dI u.typeIs (ag ?_))
 refine ac (wpAny_fieldsOf ho hd ?_);have z:fY "dict_keyiterator"=false:=by decide
 rw [z];show wpAny _ _ (if (cE d == cH)=true then _ else _) _ _ s;rw [if_neg (show ¬((cE d == cH)=true) from aH)]
 refine ac (ag ?_);refine ac (bG hm rfl ?_);rw [if_neg (by simp)]
 refine ac (ag ?_);refine ac (eK hm rfl ?_);rw [if_neg (by simp)]
 refine ag ?_;simp only [show ¬((i:Int)<0) from by exact lin [i] [] (.l (.c V0) K0) [] rfl,if_false,bZ,hx]
 refine ac ?_
 first | refine ac (c6 u.typeIs (ag ?_)) | refine ac (dI u.typeIs (ag ?_))
 refine ac (wpAny_isOneOf_keyiter u.typeIs ?_);show wpAny _ _ (setField (.ref it) 1 (gt ((i:Int)+1)) >>= _) _ _ s;refine ac (wpAny_setField ho hd (by simp) ?_)
 have y:(s.heap.update it (Obj.mapFields (·.setIfInBounds 1 (gt ((i:Int)+1))))).IsKeyIter it d (i+1) es.size ep :=
  ⟨_,bL _ ho (Obj.isFreed_of_fields (Obj.data_mapFields hd _)),(Obj.cls_mapFields ..).trans hc,by rw [Obj.data_mapFields hd];simp [gt]⟩
 refine ac (bA ?_);refine ac (wpAny_isOneOf_keyiter (s:={ s with heap:=s.heap.update it (Obj.mapFields (·.setIfInBounds 1 (gt ((i:Int)+1)))) }) y.typeIs ?_)
 show wpAny _ _ (pure e.key) _ _ _;exact ag (ag ⟨_,rfl,ag (hQ _ y (bq ..))⟩)
theorem Lk{it d:Addr}{i ep:Nat}{es:Array aO}{Q:Option Value->ae->Prop}(hh:A.handled=none)(u:s.heap.IsKeyIter it d i es.size ep)
  (hm:DictE s.heap d es ep) (hx:es.size<=i) (hQ:∀h',di it s.heap h'->Q none { s with heap:=h' }):wpAny (model S.prog S.w) A (pyNext (.ref it)) Q E s:=by
 refine X1ppp (id u) fun o ho hc hd=>?_;unfold pyNext
 refine ac (gQ (dJ (name:=bX "__next__") u.typeIs b9
  (cJ b9 u.typeIs eG ?_ (eB _))))
 refine ac (ag ?_);refine ac ?_;refine ac ?_
 first | refine ac (c6 u.typeIs (ag ?_)) | refine ac (dI u.typeIs (ag ?_))
 refine ac (wpAny_fieldsOf ho hd ?_);have z:fY "dict_keyiterator"=false:=by decide
 rw [z];show wpAny _ _ (if (cE d == cH)=true then _ else _) _ _ s;rw [if_neg (show ¬((cE d == cH)=true) from aH)]
 refine ac (ag ?_);refine ac (bG hm rfl ?_);rw [if_neg (by simp)]
 refine ac (ag ?_);refine ac (eK hm rfl ?_);rw [if_neg (by simp)]
 refine ag ?_;simp only [show ¬((i:Int)<0) from by exact lin [i] [] (.l (.c V0) K0) [] rfl,if_false,bZ,Array.getElem?_eq_none hx]
 refine ac ?_
 first | refine ac (c6 u.typeIs (ag ?_)) | refine ac (dI u.typeIs (ag ?_))
 show wpAny _ _ (setField (.ref it) 0 .none >>= _) _ _ s;refine ac (wpAny_setField ho hd (by simp) ?_)
 show wpAny _ _ (newExc (.type "StopIteration") [] >>= _) _ _ _;refine ac ?_;simp only [newExc,newTuple];refine ac (bY ?_ (by size_fits))
 refine ac (m:=gu _ _) (wpAny_of_eq (a:=cH) (by first | rfl | (simp only [gu];rfl)) ?_)
 refine bY ?_ (by size_fits)
 simp only [raiseNew];refine ac (wpAny_handled ?_);rw [show A.in1.handled=none from hh]
 refine ac (ag (wpAny_throw ?_));refine ac (dK (T := "StopIteration") (b:=true) ⟨_,aF _ rfl,rfl⟩ isSubtype_stop ?_);exact ag (hQ _ (((bq ..).extBut.push _).push _))
end
section
variable {F:Fx S}{m m':Vars}{V V':Store}{s s':ae}{X:Value->ae->Prop}{Q:AV->Store->Prop}
theorem grown{o:Obj}{av:AV}{v:Value}(hs:F.St m V s)(r:Rep S.cv s.heap (F.D V) av v):Rep S.cv (s.heap.push o) (F.D V) av v:=by
 refine Ao (hs.grow (Aw s.heap o) s.toks) fun h1 st=>?_;exact r.st st.any h1
theorem IterT.tup(hq:S.hx=aa){l:List AV}:IterT F V (.tup l) l (fun Z Z=>True):=by
 intro m va s t X hs ra;obtain ⟨ad,vs,n,rfl,e,rl⟩:∃ad vs n,va=.ref ad/\s.heap.get? ad=some (Br (aA vs) n)/\RepL S.cv s.heap (F.D V) l vs:=by
  refine X3pppp ra.inv fun a b c e f Z r=>?_;exact ⟨a,b,c,e,f,r⟩
 have hL:s.heap.IsTuple ad vs.toArray:=⟨_,e,rfl,n,rfl⟩;refine wpAny_pyIter_tuple hL ⟨s.heap.objs.size,(·=s.heap.objs.size),fun AS i V' s'=>s'.heap.IsTupleIter s.heap.objs.size ad i/\Rep S.cv s'.heap (AS.D V') (.tup l) (.ref ad),rfl,?_,Aw _ _,⟨_,_,rfl⟩,fun b q=>by rw [q];exact Ax _,?_⟩
 ·have T:∀i (s':ae),s'.heap.IsTupleIter s.heap.objs.size ad i->Its s'.heap (·=s.heap.objs.size):=by
   intro i s' hR1 b hR2;refine X1ppp hR1 fun o e c d=>?_;subst hR2;exact ⟨o,e,⟨_,c,by decide,by decide⟩,_,d⟩
  intro AS;refine ⟨fun i V' s' hJ=>T i s' hJ.1,fun i Am As Aa Ac Ab Aj O hO hN hJ Ad st Ah o=>⟨?_,hJ.2.step st hO Ad.pN⟩,fun i x Am Aa Ac Gg Q X hx Ad hJ hQ=>?_,fun i Aa Ac Q X hJ hQ=>wpAny_pyIter_tupleiter hJ.1 hQ,fun Am Aa Ac Q X Ad hJ hQ=>?_⟩
  ·have z:=T i Ac hJ.1
   refine X1ppp hJ.1 fun o e c d=>?_;exact ⟨o,z.still Ad hO hN st rfl e,c,d⟩
  ·refine Ao hJ fun u U=>?_
   ·refine X3pppp U.inv fun Z ws n' e0 e' d B=>?_
    obtain rfl:=b4 e0;refine X1pp (B.get hx) fun v hv rv=>?_;have z:=T i Ac u;refine wpAny_pyNext_tuple_item u (items:=ws.toArray) ⟨_,e',rfl,n',rfl⟩ (x:=v) (by simpa using hv) fun h' y hsb=>?_
    have Y:ItStep (·=s.heap.objs.size) Ac { Ac with heap:=h' }:=⟨fun b o q e=>hsb.extBut b o q e,rfl,rfl,rfl⟩
    refine X1ppp (id y) fun o eo co Z=>?_;exact Bc eo co (by decide) (hQ v _ Y (rv.it z Y.keep) ⟨y,U.it z Y.keep⟩)
  ·refine Ao hJ fun u U=>?_
   ·refine X3pppp U.inv fun Z ws n' e0 e' d B=>?_
    obtain rfl:=b4 e0;exact wpAny_pyNext_tuple_end (AS.room.quiet hq) u (items:=ws.toArray) ⟨_,e',rfl,n',rfl⟩ (by simp [B.length]) fun h' he=>hQ _ ⟨fun b o q e=>he b o q e,rfl,rfl,rfl⟩
 ·intro AS Ab Aj kp hD ks
  exact ⟨⟨_,kp _ _ (aF _ rfl),rfl,rfl⟩,(grown hs ra).ext (Ext.of_keeps kp) hD⟩
noncomputable def C3(x:Str):List AV:=x.cps.toList.map fun c=>.str ⟨#[c]⟩
theorem IterT.str(hq:S.hx=aa){x:Str}(ha:x.cps.all (·<128)=true):IterT F V (.str x) (C3 x) (fun Z Z=>True):=by
 intro m va s t X hs ra;refine X1l va ra.inv fun tk=>?_;refine wpAny_pyIter_ascii ha ⟨s.heap.objs.size,(·=s.heap.objs.size),fun AS i V' s'=>s'.heap.IsStrIter s.heap.objs.size "str_ascii_iterator" x tk i,rfl,?_,Aw _ _,⟨_,_,rfl⟩,fun b q=>by rw [q];exact Ax _,?_⟩
 ·have T:∀i (s':ae),s'.heap.IsStrIter s.heap.objs.size "str_ascii_iterator" x tk i->Its s'.heap (·=s.heap.objs.size):=by
   intro i s' hR1 b B;refine X1ppp hR1 fun o e c d=>?_;subst B;exact ⟨o,e,⟨_,c,by decide,by decide⟩,_,d⟩
  intro AS;refine ⟨fun i V' s' hJ=>T i s' hJ,fun i Am As Aa Ac Ab Aj O hO hN hJ Ad st Ah o=>?_,fun i y Am Aa Ac Gg Q X hx Ad hJ hQ=>?_,fun i Aa Ac Q X hJ hQ=>wpAny_pyIter_striter_ascii hJ hQ,fun Am Aa Ac Q X Ad hJ hQ=>?_⟩
  ·have z:=T i Ac hJ
   refine X1ppp hJ fun o e c d=>?_;exact ⟨o,z.still Ad hO hN st rfl e,c,d⟩
  ·have z:=T i Ac hJ
   simp only [C3,aW,aY,Array.getElem?_toList] at hx;refine X1pp hx fun c hc Z0=>?_;clear hx;subst Z0;refine wpAny_pyNext_ascii_item hJ (c:=c) hc fun h' Y U=>?_;have u:ItStep (·=s.heap.objs.size) Ac { Ac with heap:=h',toks:=Ac.toks+1 }:=⟨fun b o q e=>U.extBut b o q e,rfl,rfl,rfl⟩
   refine X1ppp (id Y) fun o eo co Z=>?_;exact Bc eo co (by decide) (hQ _ _ u (.str _ _) Y)
  ·exact wpAny_pyNext_ascii_end (AS.room.quiet hq) hJ (by simp [C3]) fun h' he=>hQ _ ⟨fun b o q e=>he b o q e,rfl,rfl,rfl⟩
 ·intro AS Ab Aj kp hD ks
  exact ⟨_,kp _ _ (aF _ rfl),rfl,rfl⟩
theorem RepD.get{cv:Nat->Value}{h:Heap}{D:Addr->Prop}{l:List (Af×AV)}{es:List aO}{i:Nat}{k:Af}{x:AV}(r:RepD cv h D l es)(q:l[i]?=some (k,x)):∃e,es[i]?=some e/\Rep cv h D (sp k) e.key/\Rep cv h D x e.val:=by
 induction l generalizing es i with
 | nil=>exact (Ak gL q).elim
 | cons p l ih =>
  refine X6lpppp es r.inv fun t tx ty n v us e d a b=>?_
  cases i with
  | zero=>obtain rfl:p=(k,x):=ar q;exact ⟨_,rfl,.tup (vs:=[_,_]) e d (.cons (.int _ _) (.cons (.int _ _) .nil)),a⟩
  | succ i=>exact ih (es:=us) (i:=i) b q
theorem RepD.length{cv:Nat->Value}{h:Heap}{D:Addr->Prop}{l:List (Af×AV)}{es:List aO}(r:RepD cv h D l es):es.length=l.length:=by
 induction l generalizing es with
 | nil=>rw [show es=[] from r.inv];rfl
 | cons p l ih=>refine X6lpppp es r.inv fun t tx ty n v us Z Z Z b=>?_;exact congrArg e9 (ih b)
theorem Rep.dctE{a:AV}{l:List (Af×AV)}{v:Value}(r:Rep S.cv s.heap (F.D V) a v)(hs:F.St m V s)(h:dd V a=some l) :
  ∃ad es n,v=.ref ad/\DictE s.heap ad (aA es) n/\(ad == cp)=false/\RepD S.cv s.heap (F.D V) l es:=by
 refine X3lpppp v (r.dct hs.inv h) fun ad es n e sm nd rd=>?_;exact ⟨ad,es,n,rfl,e,sm,rd⟩
theorem IterT.dict(hq:S.hx=aa){l:List (Af×AV)}:IterT F V (.dict l) (l.map fun p=>sp p.1) (fun Z Z=>True):=by
 intro m va s t X hs ra;refine X3lppppp va ra.inv fun ad es n e d sm nd rd=>?_;have hE:DictE s.heap ad es.toArray n:=e;refine H5 sm hE ⟨s.heap.objs.size,(·=s.heap.objs.size),fun AS i V' s'=>s'.heap.IsKeyIter s.heap.objs.size ad i es.toArray.size n/\DictE s'.heap ad es.toArray n/\¬AS.D V' ad/\RepD S.cv s'.heap (AS.D V') l es,rfl,?_,Aw _ _,⟨_,_,rfl⟩,fun b q=>by rw [q];exact Ax _,?_⟩
 ·have its:∀i (s':ae),s'.heap.IsKeyIter s.heap.objs.size ad i es.toArray.size n->Its s'.heap (·=s.heap.objs.size):=by
   intro i s' hR1 b hR2;refine X1ppp hR1 fun o e c d=>?_;subst hR2;exact ⟨o,e,⟨_,c,by decide,by decide⟩,_,d⟩
  intro AS;refine ⟨fun i V' s' hJ=>its i s' hJ.1,fun i Am As Aa Ac Ab Aj O hO hN hJ Ad st Ah o=>⟨?_,?_,?_,hJ.2.2.2.step st hO Ad.pN⟩,fun i x Am Aa Ac Gg Q X hx Ad hJ hQ=>?_,fun i Aa Ac Q X hJ hQ=>wpAny_pyIter_keyiter hJ.1 hQ,fun Am Aa Ac Q X Ad hJ hQ=>?_⟩
  ·have z:=its i Ac hJ.1
   refine X1ppp hJ.1 fun o e c d=>?_;exact ⟨o,z.still Ad hO hN st rfl e,c,d⟩
  ·exact st.ext.obj _ _ hJ.2.1 (fun q=>hJ.2.2.1 (q.imp id fun q=>q.elim (hO _) (Ad.pN _)))
  ·intro q
   rcases q with q | q
   ·rcases st.dom _ q with z | z
    ·exact hJ.2.2.1 (.inl z)
    ·have:=hJ.2.1;unfold DictE at this;rw [z] at this;cases this
   ·exact hJ.2.2.1 (.inr q)
  ·refine B0 hJ fun Y T nD B=>?_
   simp only [aW,aY] at hx;obtain ⟨⟨k,y⟩,hl,rfl⟩:=hx;refine X1ppp (B.get hl) fun en he rk Z=>?_;have z:=its i Ac Y;refine H4 Y T (e:=en) (by simpa using he) fun h' U hsb=>?_
   have u:ItStep (·=s.heap.objs.size) Ac { Ac with heap:=h' }:=⟨fun b o q e=>hsb.extBut b o q e,rfl,rfl,rfl⟩
   refine X1ppp (id U) fun o eo co Z=>?_;refine Bc eo co (by decide) (hQ _ _ u (rk.it z u.keep) ⟨U,u.keep _ _ (z.seq T (by intro _ h;cases h)) T,nD,B.it z u.keep⟩)
  ·refine B0 hJ fun Y T nD B=>?_
   exact Lk (AS.room.quiet hq) Y T (by simp [B.length]) fun h' he=>hQ _ ⟨fun b o q e=>he b o q e,rfl,rfl,rfl⟩
 ·intro AS Ab Aj kp hD ks
  refine Ao (hs.grow (Aw s.heap { cls:=.type "dict_keyiterator",data:=.fields #[.ref ad,.int 0 0,.int es.toArray.size 0,.int n 0] }) s.toks) fun h1 st=>?_;exact ⟨⟨_,kp _ _ (aF _ rfl),rfl,rfl⟩,kp _ _ (ax _ hE),(fun q=>(hD _ q).elim d fun z=>by rw [ax _ e] at z;cases z),(rd.step st.any h1.own h1.pN).ext (Ext.of_keeps kp) hD⟩
noncomputable def A9(a b c:Int):Nat:=(aR a b c).toNat
theorem IterT.range{a b c:Int}(hsm:cg a b c=true):IterT F V (.range a b c) (AU a c (A9 a b c)) (fun Z Z=>True):=by
 intro m va s t X hs ra;refine X4lpp va ra.inv fun r tk1 tk2 Y e d=>?_;have sz:0<=aR a b c:=by
  unfold aR
  split
  ·split
   ·have:0<=(b - a - 1) / c:=Int.ediv_nonneg (by omega) (by omega)
    exact lin [] [(b - a - 1) / c] (.f K0 (.A V0 K1)) [.f K0 V0] rfl this
   ·exact lin [] [] (.f K0 K0) [] rfl
  ·split
   ·have:0<=(a - b - 1) / -c:=Int.ediv_nonneg (by omega) (by omega)
    exact lin [] [(a - b - 1) / -c] (.f K0 (.A V0 K1)) [.f K0 V0] rfl this
   ·exact lin [] [] (.f K0 K0) [] rfl
 refine wpAny_pyIter_range (t:=tk1) (u:=tk2) (v:=Y) e hsm ⟨s.heap.objs.size,(·=s.heap.objs.size),fun AS i V' s'=>gJ s'.heap s.heap.objs.size (a+c * i) (aR a b c - i) c,rfl,?_,Aw _ _,⟨_,_,rfl⟩,fun b q=>by rw [q];exact Ax _,?_⟩
 ·have T:∀(i:Nat)(s':ae),gJ s'.heap s.heap.objs.size (a+c * i) (aR a b c - i) c->Its s'.heap (·=s.heap.objs.size):=by
   rintro i s' e b rfl
   exact ⟨_,e,⟨_,rfl,by decide,by decide⟩,_,rfl⟩
  have len:(AU a c (A9 a b c)).length=A9 a b c:=by simp [AU]
  intro AS;refine ⟨fun i V' s' hJ=>T i s' hJ,fun i Am As Aa Ac Ab Aj O hO hN hJ Ad st Ah o=>?_,fun i y Am Aa Ac Gg Q X hx Ad hJ hQ=>?_,fun i Aa Ac Q X hJ hQ=>wpAny_pyIter_rangeiter hJ hQ,fun Am Aa Ac Q X Ad hJ hQ=>?_⟩
  ·exact (T i Ac hJ).still Ad hO hN st rfl hJ
  ·have z:=T i Ac hJ
   simp only [AU,aW,aY] at hx;refine X1pp hx fun j hj Z0=>?_;clear hx;subst Z0;have U:i<A9 a b c:=by
    rcases bJ i (A9 a b c) with q | q
    ·exact q
    ·rw [ba (by simpa using q)] at hj;cases hj
   have:j=i:=by rw [List.getElem?_range U] at hj;exact (ar hj).symm
   subst this;refine wpAny_pyNext_range_item hJ (by unfold A9 at U;exact lin [j,(aR a b c).toNat] [aR a b c] (.g K0 (.S V0 (.c V0))) [.c V0 V1,.h (.c V1) V0] rfl U (au (lin [] [aR a b c] (.f K0 V0) [.f K0 V0] rfl sz))) fun h' B hsb=>?_
   have ist:ItStep (·=s.heap.objs.size) Ac { Ac with heap:=h',toks:=Ac.toks+1 }:=⟨fun b o q e=>hsb.extBut b o q e,rfl,rfl,rfl⟩
   refine Bc B rfl (by decide) (hQ _ _ ist (.int _ _) ?_)
   show gJ h' _ _ _ _;have e1:a+c * ((j+1:Nat):Int)=a+c * j+c:=by rw [Int.natCast_add,Int.mul_add];simp [dH]
   have e2:aR a b c - ((j+1:Nat):Int)=aR a b c - j - 1:=by exact ah (lin [j] [aR a b c] (.f (.S V0 (.c (.A V0 K1))) (.S (.S V0 (.c V0)) K1)) [] rfl) (lin [j] [aR a b c] (.f (.S (.S V0 (.c V0)) K1) (.S V0 (.c (.A V0 K1)))) [] rfl)
   rw [e1,e2];exact B
  ·refine JQ AS.room.hh (fun x hx=>by refine X2pp (S.hxo x hx) fun o vs e r=>?_;exact ⟨o,vs,Ad.inv.keep _ _ e,r⟩) hJ ?_ fun h' he=>hQ _ ⟨fun b o q e=>he b o q e,rfl,rfl,rfl⟩
   rw [len];unfold A9;exact lin [(aR a b c).toNat] [aR a b c] (.f (.S V0 (.c V0)) K0) [.f V0 (.c V0)] rfl (aK (aR a b c))
 ·intro AS Ab Aj kp hD ks
  show gJ _ _ _ _ _
  have:=kp _ _ <| aF s.heap (o:={ cls:=.type "range_iterator",data:=.fields #[gt a,gt (aR a b c),gt c] }) rfl
  simpa using this
theorem DH{h':Heap}{tk:Nat}{r:Addr}{a b c:Int}{t u v:Tok}(hs:F.St m V s)(k:∀b o,s.heap.get? b=some o->h'.get? b=some o)(ha:s.heap.get? r=aa)
  (e:h'.get? r=some (Hm a b c t u v)) (q:Q (.range a b c) V) :
  PW F m V s (PV F Q) (.ref r) { s with heap:=h',toks:=tk }:=by
 refine Ao (hs.grow k tk) fun h1 st=>?_;exact ⟨V,st.any,h1,_,.range e (hs.inv.not_D ha),q⟩
theorem CT.range1{n:Int}(h:Q (.range 0 n 1) V):CT F m V (.type "range") [.int n] Q X:=by
 intro U s hs r;refine X1lp U r.one fun v ra=>?_;refine X1l v ra.inv fun Z=>?_;exact call_range_1 (DH (tk:=s.toks+1+1) hs (Aw _ _) (Ax _) (IsRange.new ..) h)
theorem CT.range2{a b:Int}(h:Q (.range a b 1) V):CT F m V (.type "range") [.int a,.int b] Q X:=by
 intro U s hs r;refine X2lpp U r.two fun v u ra rb=>?_;refine X1l v ra.inv fun Z=>?_;refine X1l u rb.inv fun Z=>?_;exact call_range_2 (DH (tk:=s.toks+1) hs (Aw _ _) (Ax _) (IsRange.new ..) h)
theorem CT.range3{a b c:Int}(hc:c≠0)(Y:c.natAbs<1073741824)(h:Q (.range a b c) V):CT F m V (.type "range") [.int a,.int b,.int c] Q X:=by
 intro U s hs r
 ·obtain ⟨_,_,rfl,ra,r⟩:=r.inv
  obtain ⟨_,_,rfl,rb,rc⟩:=r.two;refine X1p ra.inv fun Z Z0=>?_;clear ra r;subst Z0;refine X1p rb.inv fun Z Z1=>?_;clear r rb;subst Z1;refine X1p rc.inv fun Z Z2=>?_;subst Z2
  ··exact call_range_3 hc (DH (tk:=s.toks) hs (Aw _ _) (Ax _) (IsRange.new ..) h) (.inl (PyProof.noPylong_small Y))
end
end
section
variable {S:Sta}
section
variable {F:Fx S}{m m':Vars}{V V':Store}{s s':ae}{X:Value->ae->Prop}{Q:AV->Store->Prop}{K:Fl->Vars->Store->Prop}
noncomputable def Tgt(p:Pat)(t:ai):Prop:=match p with
 | .tup _=>∃es k q,t=.Tuple es k q
 | _=>True
theorem CP.tgt{tb:List Nat}{sc:Nms}{t:ai}{p:Pat}(h:CP tb sc t p):Tgt p t:=by
 cases p with
 | v=>trivial
 | tup=>refine X3lp t h fun Z Z Z Z=>?_;exact ⟨_,_,_,rfl⟩
inductive PSrc(F:Fx S)(m:Vars)(V:Store)(s:ae)(t:ai)(G:List AV->(Store->Store->Prop)->Store->Prop)(it:Value)(Aj:ae):Prop
 | mk (I:Addr) (items:List AV) (W:Addr->Prop) (J:Fx S->Nat->Store->ae->Prop) (ok:Store->Store->Prop) (Ab:Store) (sm:ae) (hit:it=.ref I) (wk:∀AS:Fx S,Walk AS I items t W (J AS) ok) (st:Step F.P F.O V s Ab sm) (hm:F.St m Ab sm)
  (st':Step noO noO Ab sm Ab Aj) (h:F.St m Ab Aj) (nw:∀a,W a->sm.heap.get? a=aa) (mv:Moves F Ab Aj J) (g:G items ok Ab):PSrc F m V s t G it Aj
noncomputable def SrcT(F:Fx S)(m:Vars)(V:Store)(p:Pat)(e:E)(G:List AV->(Store->Store->Prop)->Store->Prop)(X:Value->ae->Prop):Prop :=
 ∀pe t,CE F.tb F.sc pe e->Tgt p t->∀s,F.St m V s ->
  wpAny (model S.prog S.w) F.A (eval pe F.env) (fun x Ac=>wpAny (model S.prog S.w) F.A (pyIter x) (PSrc F m V s t G) X Ac) X s
theorem SrcT.val{p:Pat}{e:E}{G:List AV->(Store->Store->Prop)->Store->Prop}(h:ET F m V e (fun a Aa=>∃items ok,IterT F Aa a items ok/\G items ok Aa) X):SrcT F m V p e G X:=by
 intro pe t hc hp s hs;refine (h pe hc s hs).out ?_;intro v Aa Ac Ai Ad u;obtain ⟨a,ra,items,ok,T,hg⟩:=u;refine aV (T m v Ac t X Ad ra) ?_ fun Z Z e=>e;intro it Aj u;obtain ⟨I,W,J,rfl,wk,kp,⟨h',tk,rfl⟩,nw,hJ⟩:=u;refine Ao (Ad.grow kp tk) fun Ah st=>?_;exact ⟨I,items,W,J,ok,Aa,Ac,rfl,wk,Ai,Ad,st,Ah,nw,hJ,hg⟩
theorem FT{e:ai}{env:Env}(h:Bb e=true):∀x,foldedSetIterable e env x=pure x:=by
 intro x;cases e<;>first | rfl | cases h
theorem ST.for_{p:Pat}{e:E}{body:List Mine.Internal.S}(hX:hW (model S.prog S.w) F.A F.env X)(h:SrcT F m V p e (fun items ok Aa=>LV F p body ok K X items m Aa) X):ST F m V (.for_ p e body) K X:=by
 intro ps hc s hs;refine X4lpppp ps hc.inv fun Z Z Z Z hn hp he hb=>?_;refine wpAny_For (aV (h _ _ he hp.tgt s hs) ?_ fun Z Z e=>e) (FT hn);intro x Ac Ad;refine aV Ad ?_ fun Z Z e=>e;intro it Aj u;obtain ⟨I,items,W,J,ok,Ab,sm,rfl,wk,st,hm,O,Ah,y,hJ,hl⟩:=u;have nw:∀a,W a->s.heap.get? a=aa:=fun a q=>st.new (y a q);replace st:=st.trans O.any;refine dF (forLoopT (wk F) hX hp hb nw st Ah (fun a q=>?_) (fun a q n=>?_) hJ.here hl) fun r s' x=>?_
 ·cases z:F.b.2.heap.get? a with
  | none=>rfl
  | some o=>refine X1p (hs.frm.there a o z) fun o' e'=>?_;rw [nw a q] at e';cases e'
 ·refine X1pp (hs.inv.Nin a n) fun o e' nf=>?_;rw [nw a q] at e';cases e'
 ·cases r<;>exact x
set_option tactic.hygienic true in
theorem ST.while_{c:E}{body:List Mine.Internal.S}(hX:hW (model S.prog S.w) F.A F.env X)(I:Nat->Vars->Store->Prop)
  (turn:∀n m V,I n m V->TT F m V c (fun t Aa=>if t then SsT F m Aa body (fun fl As Ab=>match fl with
   | .next=>∃n',n'<n/\I n' As Ab
   | .ret v=>K (.ret v) As Ab) X else K .next m Aa) X) (n:Nat) (h:I n m V):ST F m V (.while_ c body) K X:=by
 intro ps hc s hs;have O:=hc.inv;clear hc;refine X3lpp ps O fun Z Z Z hc hb=>?_;refine wpAny_While (codeAny_whileLoop (fun n=>PP F V s (I n)) ?_ n ⟨m,V,Step.refl _ _ _ _,hs,h⟩);intro n Ac B;obtain ⟨Am,Aa,Ai,Ad,hI⟩:=B;refine fX hX ((turn n Am Aa hI _ hc Ac Ad).out ?_)
 rintro b Ab Aj An Ah q
 cases b with
 | true =>
  simp only [if_true] at q ⊢;refine fX hX (aV (q _ hb Aj Ah) ?_ fun Z Z e=>e);intro f BB B;obtain ⟨fl,m₃,Ap,A0,AI,hf,q'⟩:=B;have Y:=(Ai.trans An).trans A0
  cases fl with
  | next =>
   cases f with
   | next=>refine X1pp q' fun n' hn y=>?_;exact ⟨n',hn,m₃,Ap,Y,AI,y⟩
   | _=>exact hf.elim
  | ret v =>
   cases f with
   | ret u=>exact ⟨.ret v,m₃,Ap,Y,AI,hf,q'⟩
   | _=>exact hf.elim
 | false =>
  simp only [bT,if_false] at q ⊢;exact wpAny_execs_nil ⟨.next,Am,Ab,Ai.trans An,Ah,trivial,q⟩
noncomputable def PTs(F:Fx S)(X:Value->ae->Prop)(K:Vars->Store->Prop):List Pat->List AV->Vars->Store->Prop
 | [],[],m,V=>K m V
 | p::ps,a::as,m,V=>PT F m V p a (fun Am Aa=>PTs F X K ps as Am Aa) X
 | _,_,_,_=>False
theorem FX{e:ai}{r:List ai}{env:Env}(h:Ba e=true):assignEach (e::r) env=(false,assign e env)::assignEach r env:=by
 cases e<;>first | rfl | cases h
theorem each_len:∀{qs:List Pat}{es:List ai},CPs F.tb F.sc es qs->(assignEach es F.env).length=qs.length/\(assignEach es F.env).findIdx? (·.1)=none:=by
 intro qs
 induction qs with
 | nil=>intro es hc;obtain rfl:=hc.inv_nil;exact ⟨rfl,rfl⟩
 | cons q qs ih =>
  intro es hc;refine X2lppp es hc.inv fun Z Z hn hp hr=>?_;refine Ao (ih hr) fun z1 z2=>?_;rw [FX hn];refine ⟨by rw [aL,aL,z1],?_⟩
  rw [List.findIdx?_cons];simp [z2]
theorem PTs.run{K:Vars->Store->Prop}:∀{ps:List Pat}{as:List AV}{B:List ai}{vs:List Value}{m:Vars}{V:Store}{s:ae} ,PTs F X K ps as m V->CPs F.tb F.sc B ps->RepL S.cv s.heap (F.D V) as vs->F.St m V s ->
  wpAny (model S.prog S.w) F.A (assignInOrder ((assignEach B F.env).map (·.2)) vs) (fun Z=>PP F V s K) X s:=by
 intro ps
 induction ps with
 | nil =>
  intro as B vs m V s h hc r hs;obtain rfl:=hc.inv_nil
  cases as with
  | nil=>rw [show vs=[] from r.inv];exact wpAny_assignInOrder_none ⟨m,V,Step.refl _ _ _ _,hs,h⟩
  | cons=>exact h.elim
 | cons p ps ih =>
  intro as B vs m V s h hc r hs;refine X2lppp B hc.inv fun e rr hn hp hr=>?_;rw [FX hn]
  cases as with
  | nil=>exact h.elim
  | cons a as =>
   ·obtain ⟨v,vs,rfl,r1,r⟩:=r.inv
    refine eH (aV (h e hp v s hs r1) ?_ fun Z Z e=>e);intro _ Ac u;obtain ⟨Am,Aa,Ai,Ad,q⟩:=u;refine aV (ih q hr (r.st Ai Ad) Ad) ?_ fun Z Z e=>e;intro _ Aj u;obtain ⟨As,Ab,An,Ah,Bt⟩:=u;exact ⟨As,Ab,Ai.trans An,Ah,Bt⟩
theorem KJ{h':Heap}(hs:F.St m V s)(k:di s.heap.objs.size s.heap h'):F.St m V { s with heap:=h' }/\Step F.P F.O V s V { s with heap:=h' }:=by
 refine Ao (hs.grow (h':=h') (fun b o e=>k b o (bK (bh e)) e) s.toks) fun h1 st=>?_;exact ⟨h1,st.any⟩
theorem PT.tup(hq:S.hx=aa){ps:List Pat}{l:List AV}{K:Vars->Store->Prop}(hl:ps.length=l.length)(h:PTs F X K ps l m V):PT F m V (.tup ps) (.tup l) K X:=by
 intro pe hc v s hs r;have O:=hc.inv;clear hc;obtain ⟨_,_,_,rfl,hc⟩:=O
 ·obtain ⟨ad,vs,n,rfl,e,d,r⟩:=r.inv
  have ht:s.heap.IsTuple ad vs.toArray:=⟨_,e,rfl,n,rfl⟩;obtain ⟨z1,z2⟩:=each_len hc;refine wpAny_assign_Tuple (F.room.quiet hq) ht (by rw [z1,hl,aG,r.length]) z2 fun h' k=>?_
  obtain ⟨h1,st⟩:=KJ hs k;refine aV (h.run hc (r.st st h1) h1) ?_ fun Z Z e=>e;intro _ Aj u;obtain ⟨As,Ab,An,Ah,Bt⟩:=u;exact ⟨As,Ab,st.trans An,Ah,Bt⟩
theorem Fv{ts:List ai}{k:Nat}{tp:Pos}{pe:ai}{e:E}{env:Env}{tb:List Nat}{sc:Nms}(hc:CE tb sc pe e)(h:FG e=true):eI [.Tuple ts k tp] pe env=pure none:=by
 replace hc:=hc.un;unfold FG at h;generalize e.un=e at hc h;replace hc:=hc.1;unfold J4 at h;rw [<- hc] at h
 cases pe<;>first | rfl | exact (aH h).elim
theorem pats_len:∀{qs:List Pat}{es:List ai}{tb:List Nat}{sc:Nms},CPs tb sc es qs->es.length=qs.length:=by
 intro qs
 induction qs with
 | nil=>intro es tb sc h;rw [h.inv_nil];rfl
 | cons q qs ih =>
  intro es tb sc h;refine X2lppp es h.inv fun Z Z Z Z h2=>?_;rw [aL,aL,ih h2]
theorem Fw{ts:List ai}{k:Nat}{tp:Pos}{pe:ai}{env:Env}(h:4<=ts.length):eI [.Tuple ts k tp] pe env=pure none:=by
 have e:(!(ts.length == 2 || ts.length == 3))=true:=by
  rw [beq_eq_false_iff_ne.mpr (show ts.length≠2 by exact fun z0=>lin [ts.length] [] .no [.b K4 V0,.d V0 K2] rfl h z0),beq_eq_false_iff_ne.mpr (show ts.length≠3 by exact fun z0=>lin [ts.length] [] .no [.b K4 V0,.d V0 K3] rfl h z0)];rfl
 unfold eI
 cases pe with
 | Tuple vs a b =>
  dsimp only;rw [if_pos (by rw [e];rfl)]
 | _=>rfl
set_option tactic.hygienic true in
theorem ST.unpack{ps:List Pat}{e:E}(hn:FG e=true\/4<=ps.length)(y:AJ e=true)(h:ET F m V e (fun a Aa=>PT F m Aa (.tup ps) a (fun As Ab=>K .next As Ab) X) X):ST F m V (.assign (.tup ps) e) K X:=by
 intro st hc s hs;refine X3lpp st hc.inv fun Z Z Z hp he=>?_;have O:=hp;refine X3pp O.inv fun Z Z Z Z0 B=>?_;subst Z0;refine Assign_Tuple ((h _ he s hs).out ?_) (by unfold swapsWithSole;exact B4 he y) (hn.elim (Fv he) fun q=>Fw (by rw [pats_len B];exact q))
 intro v Aa Ac Ai Ad u;obtain ⟨a,ra,q⟩:=u;refine aV (q _ hp v Ac Ad ra) ?_ fun Z Z e=>e;intro _ Aj u;obtain ⟨As,Ab,An,Ah,Bt⟩:=u;exact ⟨.next,As,Ab,Ai.trans An,Ah,trivial,Bt⟩
noncomputable def DK:Nat->E->Bool
 | _,.v _=>true
 | n+1,.bin _ l r=>DK n l || DK n r
 | n+1,.tup es=>es.any (DK n)
 | _,_=>false
theorem FH{tb:List Nat}{sc:Nms}:∀{n:Nat}{pe:ai}{e:E},CE tb sc pe e->DK n e=true->dL n pe=false:=by
 intro n
 induction n with
 | zero =>
  intro pe e hc h
  cases e<;>first | exact (aH h).elim | skip
  refine X2lp pe hc.inv fun Z Z hx=>?_;exact A4 hx.ok
 | succ n ih =>
  intro pe e hc h
  cases e with
  | v =>
   refine X2lp pe hc.inv fun Z Z hx=>?_;exact A4 hx.ok
  | bin op l r =>
   refine X3lpp pe hc.inv fun Z Z Z hl hr=>?_;exact fp.mpr ((dg.mp h).imp (ih hl) (ih hr))
  | tup es =>
   refine X3lp pe hc.inv fun B Z Z he=>?_;change es.any (DK n)=true at h;show B.all (dL n)=false;clear hc
   induction es generalizing B with
   | nil=>exact (aH h).elim
   | cons e es z =>
    have O:=he;clear he;refine X2lppp B O fun Z Z hn he hr=>?_;exact fp.mpr ((dg.mp h).imp (ih he) fun h=>z _ hr h)
  | _=>exact (aH h).elim
theorem set_swap(m:Vars){i j:Nat}(a b:AV)(h:i≠j):(m.set i a).set j b=(m.set j b).set i a:=by
 funext k
 unfold Vars.set
 by_cases h1:k=j
 ·subst h1;simp [fJ h]
 ·simp [h1]
set_option tactic.hygienic true in
theorem sw2{env:Env}{x1 x2:Str}{p1 p2 tp p:Pos}{k kk:Nat}{pa pb:ai}(bk:env.blockKind=.function)
  (c2:(dL 8 pa && dL 8 pb)=false) :
  eI [.Tuple [.Name x1 p1,.Name x2 p2] k tp] (.Tuple [pa,pb] kk p) env=pure none\/eI [.Tuple [.Name x1 p1,.Name x2 p2] k tp] (.Tuple [pa,pb] kk p) env=pure (some [x1,x2]):=by
 have c3:List.all [pa,pb] (dL 8)=false:=by simpa [Bool.and_true] using c2
 unfold eI;simp only [c3,bk];generalize hf:List.filterMap _ _=ns;have key:ns.length=2->ns=[x1,x2]:=by
  rw [<- hf];simp only [List.filterMap_cons,List.filterMap_nil]
  split<;>split<;>rename_i a b<;>(try (intro h;simp at h;done))
  rename_i y1 y2
  intro _
  split at y1<;>cases y1
  split at b<;>cases b
  rfl
 clear hf;generalize List.any [pa,pb] _=b0;generalize List.all [pa,pb] (foldedForSure 8)=b1
 cases b0 with
 | true=>left;rfl
 | false =>
  cases b1 with
  | true =>
   left
   by_cases q:(ns.length != 2 || ns.eraseDups.length != ns.length)=true
   ·simp only [aL,de,q];rfl
   ·simp only [aL,de,q];rfl
  | false =>
   by_cases q:(ns.length != 2 || ns.eraseDups.length != ns.length)=true
   ·left;simp only [aL,de,q];rfl
   ·right
    have:ns.length=2:=by
     simp only [dZ,bne_iff_ne,ne_eq,not_or,Decidable.not_not] at q;exact q.1
    simp only [aL,de,q];rw [key this]
    rfl
theorem unpack2(hq:S.hx=aa){i j:Nat}{x1 x2:Str}{x y:AV}{v:Value}(Y:i≠j)(hf1:F.sc.lookup x1≠some .free)(u:IsV F.tb F.sc x1 i)(z:F.sc.lookup x2≠some .free)(U:IsV F.tb F.sc x2 j)(hs:F.St m V s)
  (ra:Rep S.cv s.heap (F.D V) (.tup [x,y]) v):wpAny (model S.prog S.w) F.A (unpackItems v 2 none) (fun items Aj =>
   wpAny (model S.prog S.w) F.A (assignInOrder [bindName F.env x2,bindName F.env x1] items.reverse) (fun Z s'=>Step F.P F.O V s V s'/\F.St ((m.set i x).set j y) V s') X Aj) X s:=by
 ·refine X3lppp v ra.inv fun ad vs n e d r=>?_
  refine X2ppp r.two fun u1 u2 Z0 r1 r2=>?_;clear r;subst Z0;have ht:s.heap.IsTuple ad #[u1,u2]:=⟨_,e,rfl,n,rfl⟩;refine wpAny_unpackItems_tuple (items:=#[u1,u2]) (F.room.quiet hq) ht fun h' kx=>?_;refine Ao (KJ hs kx) fun B T=>?_;show wpAny _ _ (assignInOrder [bindName F.env x2,bindName F.env x1] [u2,u1]) _ _ _;refine eH (wpAny_bindName (Cm z U B (r2.st T B) fun Aj An Ah=>?_));refine eH (wpAny_bindName (Cm hf1 u Ah ((r1.st T B).st An Ah) fun BB A0 AI=>?_));refine wpAny_assignInOrder_none ⟨(T.trans An).trans A0,?_⟩;rw [set_swap _ _ _ Y];exact AI
set_option tactic.hygienic true in
theorem ST.assign2(hq:S.hx=aa){i j:Nat}{e1 e2:E}(d:i≠j)(hn:(DK 8 e1 || DK 8 e2)=true)(h:ET F m V e1 (fun x Aa=>ET F m Aa e2 (fun y Ab=>K .next ((Vars.set m i x).set j y) Ab) X) X) :
  ST F m V (.assign (.tup [.v i,.v j]) (.tup [e1,e2])) K X:=by
 intro st hc s hs;refine X3lpp st hc.inv fun Z Z Z hp he=>?_;have ev:ET F m V (.tup [e1,e2]) (fun a Aa=>∃x y,a=.tup [x,y]/\K .next ((Vars.set m i x).set j y) Aa) X :=
  ET.tup (EsT.cons (h.mono fun x Aa q=>EsT.cons (q.mono fun y Ab q=>EsT.nil ⟨by show 2<=big;decide,x,y,rfl,q⟩)))
 have hp':=hp;refine X3pp hp'.inv fun ts k tp Z0 B=>?_;subst Z0
 ····obtain ⟨t1,_,rfl,n1,T,B⟩:=B.inv
     obtain ⟨t2,_,rfl,n2,O,B⟩:=B.inv;obtain rfl:=B.inv_nil;refine X2ppp T.inv fun x1 p1 Z1 hf1 z=>?_;subst Z1;refine X2ppp O.inv fun x2 p2 Z2 hf2 Y=>?_;subst Z2;have hne:x1≠x2:=by
      rintro rfl
      have:=z.ix
      rw [Y.ix] at this;exact d (ar this).symm
     have he':=CE.inv he
     ···obtain ⟨pes,kk,p,rfl,U⟩:=he'
        obtain ⟨pa,_,rfl,m1,ha,U⟩:=U.inv;obtain ⟨pb,_,rfl,m2,hb,U⟩:=U.inv;obtain rfl:=U.inv_nil;have bk:F.env.blockKind=.function:=by unfold Env.blockKind;rw [F.fk];rfl
        have c2:(dL 8 pa && dL 8 pb)=false:=by
         simp only [dZ] at hn;simp only [fp];exact hn.imp (FH ha) (FH hb)
        rcases sw2 (x1:=x1) (x2:=x2) (p1:=p1) (p2:=p2) (tp:=tp) (p:=p) (k:=k) (kk:=kk) bk c2 with sw | sw
        ·refine Assign_Tuple ((ev _ he s hs).out ?_) (by unfold swapsWithSole;exact B4 he rfl) sw
         intro v Aa Ac Ai Ad u;obtain ⟨a,ra,x,y,rfl,q⟩:=u;have pt:PT F m Aa (.tup [.v i,.v j]) (.tup [x,y]) (fun As Ab=>K .next As Ab) X:=PT.tup hq rfl (by
          show PT F m Aa (.v i) x (fun Am Aa=>PT F Am Aa (.v j) y (fun As Ab=>K .next As Ab) X) X;exact PT.v (PT.v q))
         refine aV (pt _ hp v Ac Ad ra) ?_ fun Z Z e=>e;intro _ Aj u;obtain ⟨As,Ab,An,Ah,Bt⟩:=u;exact ⟨.next,As,Ab,Ai.trans An,Ah,trivial,Bt⟩
        ·refine Assign_Tuple_swapped (names:=[x1,x2]) ((ev _ he s hs).out ?_) (by unfold swapsWithSole;exact B4 he rfl) sw
         intro v Aa Ac Ai Ad u;obtain ⟨a,ra,x,y,rfl,q⟩:=u;refine aV (unpack2 hq d hf1 z hf2 Y Ad ra) (fun items Aj Ah=>?_) fun Z Z e=>e;refine aV Ah (fun Z BB AI=>?_) fun Z Z e=>e;exact ⟨.next,_,Aa,Ai.trans AI.1,AI.2,trivial,q⟩
end
end
section
variable {S:Sta}
section
variable {F:Fx S}{m m':Vars}{V V':Store}{s s':ae}{X:Value->ae->Prop}{Q:AV->Store->Prop}{K:Fl->Vars->Store->Prop}
noncomputable def Cp(l:List AV):List AV:=l.mapIdx fun i x=>.tup [.int i,x]
theorem FV{l:List AV}{i:Nat}{y:AV}(h:(Cp l)[i]?=some y):∃x,l[i]?=some x/\y=.tup [.int i,x]:=by
 simp only [Cp,fM,aY] at h;refine X1pr y h fun x hx=>?_;exact ⟨x,hx,rfl⟩
theorem Di(l:List AV):(Cp l).length=l.length:=by simp [Cp]
theorem HX{h:Heap}{e it:Addr}{i:Int}{B:Value}{oi:Obj}(he:IsEnum h e it i B)(hi:h.get? it=some oi)(d:Dd oi):Its h (fun a=>a=e\/a=it):=by
 rintro a (rfl | rfl)
 ·exact ⟨_,he,⟨_,rfl,by decide,by decide⟩,_,rfl⟩
 ·exact ⟨_,hi,d⟩
theorem Li{a:AV}{l:List AV}{V Ab:Store}(h:dl V a=some l)(ks:∀b o,V b=some o->Ab b=some o):dl Ab a=some l:=by
 cases a with
 | loc y ii =>
  refine X1pp (AG (show (V y).bind AObj.list?=some l from h)) fun o e' h'=>?_
  exact (congrArg (·.bind AObj.list?) (ks _ _ e')).trans h'
 | _=>exact h
theorem FW(hq:S.hx=aa){t:ai}{ps:List Pat}{a:AV}{l:List AV}{ad e it:Addr}(hp:Tgt (.tup ps) t)(hne:e≠it) :
  Walk F e (Cp l) t (fun b=>b=e\/b=it) (fun i V' s'=>(∃B,IsEnum s'.heap e it i B)/\s'.heap.IsListIter it ad i/\Rep S.cv s'.heap (F.D V') a (.ref ad)/\dl V' a=some l) (okL a):=by
 refine X3l t hp fun es kk pp=>?_;have T:∀(i:Nat)(s':ae)(B:Value),IsEnum s'.heap e it i B->s'.heap.IsListIter it ad i->Its s'.heap (fun b=>b=e\/b=it):=by
  intro i s' B he u;refine X1ppp u fun o eo c d=>?_;exact HX he eo ⟨⟨_,c,by decide,by decide⟩,_,d⟩
 refine ⟨?_,?_,?_,?_,?_⟩
 ·intro i V' s' u
  obtain ⟨⟨B,he⟩,U,_⟩:=u;exact T i s' B he U
 ·intro i Am As Aa Ac Ab Aj O hO hN u Ad st Ah o
  obtain ⟨⟨B,he⟩,U,ra,hl⟩:=u;have z:=T i Ac B he U;refine X1ppp U fun oi ei c d=>?_;exact ⟨⟨B,z.still Ad hO hN st (.inl rfl) he⟩,⟨oi,z.still Ad hO hN st (.inr rfl) ei,c,d⟩,ra.step st hO Ad.pN,okL_dl hl o⟩
 ·intro i y Am Aa Ac Gg Q X hxx Ad u hQ
  obtain ⟨⟨B,he⟩,U,ra,hl⟩:=u;refine X1pp (FV hxx) fun x hx Z0=>?_;clear hxx;subst Z0;have z:=T i Ac B he U;refine X3ppp (ra.lst Ad.inv hl) fun ad' ws n' e1 e' Y=>?_
  cases e1
  refine X1pp (Y.get hx) fun v hv rv=>?_;refine wpAny_pyNext_enum_item he U (items:=ws.toArray) ⟨_,e',rfl,n',rfl⟩ (x:=v) (by simpa using hv) hne fun h' ho hit' hT hz hk=>?_
  refine wpAny_letOwnedTupleGo_enum ho fun h'' he'' hsb=>?_;have kp:∀b o,¬(b=e\/b=it)->Ac.heap.get? b=some o->h''.get? b=some o:=fun b o q eb=>hsb.extBut b o (fun z=>q (.inl z)) (hk b o (fun z=>q (.inl z)) (fun z=>q (.inr z)) eb);have hlt:Ac.heap.objs.size≠e:=e7 (bh he);have ist:ItStep (fun b=>b=e\/b=it) Ac { Ac with heap:=h'',toks:=Ac.toks+1 }:=⟨kp,rfl,rfl,rfl⟩
  refine hQ _ _ ist ?_ ⟨⟨v,by simpa using he''⟩,hit'.extBut hsb.extBut (fJ hne),ra.it z kp,hl⟩
  exact .tup (vs:=[_,_]) (hsb.extBut _ _ hlt hT) (Ad.inv.not_D (Ax _)) (.cons (.int _ _) (.cons (rv.it z kp) .nil))
 ·intro i Aa Ac Q X u hQ
  obtain ⟨⟨B,he⟩,_⟩:=u;exact fi he hQ
 ·intro Am Aa Ac Q X Ad u hQ
  obtain ⟨⟨B,he⟩,U,ra,hl⟩:=u;refine X3ppp (ra.lst Ad.inv hl) fun ad' ws n' e1 e' Y=>?_
  cases e1
  refine wpAny_pyNext_enum_end (F.room.quiet hq) he U (items:=ws.toArray) ⟨_,e',rfl,n',rfl⟩ (by simp [Y.length,Di]) fun h' hx=>hQ _ ⟨fun b o q e=>hx b o (fun z=>q (.inr z)) e,rfl,rfl,rfl⟩
theorem GX(hq:S.hx=aa){t:ai}{ps:List Pat}{x:Str}{tk:Tok}{e it:Addr}(hp:Tgt (.tup ps) t)(hne:e≠it) :
  Walk F e (Cp (C3 x)) t (fun b=>b=e\/b=it) (fun i V' s'=>(∃B,IsEnum s'.heap e it i B)/\s'.heap.IsStrIter it "str_ascii_iterator" x tk i) (fun Z Z=>True):=by
 refine X3l t hp fun es kk pp=>?_;have T:∀(i:Nat)(s':ae)(B:Value),IsEnum s'.heap e it i B->s'.heap.IsStrIter it "str_ascii_iterator" x tk i->Its s'.heap (fun b=>b=e\/b=it):=by
  intro i s' B he U;refine X1ppp U fun o eo c d=>?_;exact HX he eo ⟨⟨_,c,by decide,by decide⟩,_,d⟩
 have D:Draws S.prog S.w F.A.in1 it [it] x.cps.size (fun i v=>∃c u,x.cps[i]?=some c/\v=.str ⟨#[c]⟩ u) (fun i h=>h.IsStrIter it "str_ascii_iterator" x tk i):=Draws.strAscii (A:=F.A.in1) (F.room.quiet hq) it x tk;refine ⟨?_,?_,?_,?_,?_⟩
 ·intro i V' s' U
  obtain ⟨⟨B,he⟩,Y⟩:=U;exact T i s' B he Y
 ·intro i Am As Aa Ac Ab Aj O hO hN U Ad st Ah o
  obtain ⟨⟨B,he⟩,Y⟩:=U;have z:=T i Ac B he Y;refine X1ppp Y fun oi ei c d=>?_;exact ⟨⟨B,z.still Ad hO hN st (.inl rfl) he⟩,⟨oi,z.still Ad hO hN st (.inr rfl) ei,c,d⟩⟩
 ·intro i y Am Aa Ac Gg Q X hxx Ad U hQ
  obtain ⟨⟨B,he⟩,Y⟩:=U;refine X1pp (FV hxx) fun u hx Z1=>?_;clear hxx;subst Z1;have z:=T i Ac B he Y;have hlt':i<x.cps.size:=by
   rcases bJ i x.cps.size with q | q
   ·exact q
   ·rw [ba (by simpa [C3] using q)] at hx;cases hx
  refine wpAny_pyNext_enum_itemD D he Y hlt' hne (by simpa using hne) fun v h' tk' hP ho hit' hT hz hk=>?_
  refine wpAny_letOwnedTupleGo_enum ho fun h'' he'' hsb=>?_;have kp:∀b o,¬(b=e\/b=it)->Ac.heap.get? b=some o->h''.get? b=some o:=fun b o q eb=>hsb.extBut b o (fun z=>q (.inl z)) (hk b o (fun z=>q (.inl z)) (fun z=>q (.inr z)) eb);have hlt:Ac.heap.objs.size≠e:=e7 (bh he);have ist:ItStep (fun b=>b=e\/b=it) Ac { Ac with heap:=h'',toks:=tk'+1 }:=⟨kp,rfl,rfl,rfl⟩
  refine X2pp hP fun c tu hc Z2=>?_;clear hP ho;subst Z2;simp only [C3,aW,aY,Array.getElem?_toList] at hx;refine X1pp hx fun c' hc' Z0=>?_;subst Z0;rw [hc] at hc';cases hc';refine hQ _ _ ist ?_ ⟨⟨_,by simpa using he''⟩,hit'.extBut hsb.extBut (fJ hne)⟩
  exact .tup (vs:=[_,_]) (hsb.extBut _ _ hlt hT) (Ad.inv.not_D (Ax _)) (.cons (.int _ _) (.cons (.str _ _) .nil))
 ·intro i Aa Ac Q X U hQ
  obtain ⟨⟨B,he⟩,_⟩:=U;exact fi he hQ
 ·intro Am Aa Ac Q X Ad U hQ
  obtain ⟨⟨B,he⟩,Y⟩:=U;have hl:(Cp (C3 x)).length=x.cps.size:=by simp [Di,C3]
  rw [hl] at Y;exact wpAny_pyNext_enum_endD D he Y fun h' hx=>hQ _ ⟨fun b o q e=>hx b o (fun z=>q (.inr z)) e,rfl,rfl,rfl⟩
theorem SrcT.enum1{ps:List Pat}{e:E}{gi:Nat}{G:List AV->(Store->Store->Prop)->Store->Prop}(hg:Glob S gi (.type "enumerate"))
  (h':EsT F m V [e] (fun T Aa=>∃a,T=[a]/\S.hx=aa/\((∃l,dl Aa a=some l/\G (Cp l) (okL a) Aa)\/(∃x,a=.str x/\x.cps.all (·<128)=true/\G (Cp (C3 x)) (fun Z Z=>True) Aa))) X):SrcT F m V (.tup ps) (.call (.g gi) [e]) G X:=by
 intro pe t hc hp s hs;refine X4lppp pe hc.inv fun Z Z Z Z Z hx ha=>?_;refine Call_ (Ew hx hg hs (CQ ha (Callable.type _) h' hs ?_));intro U T Aa Ac Ai Ad r d;refine X1ppp d fun a Z0 hq q=>?_;clear d;subst Z0;refine X1lp U r.one fun v ra=>?_;have O:∀k,Ac.heap.get? (Ac.heap.objs.size+k)=aa:=fun k=>by
  cases q:Ac.heap.get? (Ac.heap.objs.size+k) with
  | none=>rfl
  | some o=>exact absurd (bh q) (cO.mpr (dr _ _))
 rcases q with ⟨l,hl,hG⟩ | ⟨x,rfl,y,hG⟩
 ·refine X3ppp (ra.lst Ad.inv hl) fun ad vs n Z1 e1 rl=>?_
  subst Z1;refine call_enumerate_list (items:=vs.toArray) ⟨_,e1,rfl,n,rfl⟩ fun h2 he u hz hk=>?_;refine fi he ?_;refine Ao (Ad.grow hk Ac.toks) fun Ah An=>?_;refine ⟨_,_,_,_,_,Aa,Ac,rfl,fun AS=>FW (F:=AS) (a:=a) (ad:=ad) hq hp (ib _),Ai,Ad,An,Ah,?_,?_,hG⟩
  case refine_2 =>
   intro AS Ab Aj kp hD ks;refine X1pp u fun oi eo r=>?_;refine ⟨⟨_,kp _ _ he⟩,⟨oi,kp _ _ eo,r⟩,(ra.st An.any Ah).ext (Ext.of_keeps kp) hD,Li hl ks⟩
  rintro b (rfl | rfl)
  ·exact O 1
  ·exact O 0
 ·refine X1l v ra.inv fun tk=>?_
  refine call_enumerate_str fun h2 he u hz hk=>?_;refine fi he ?_;refine Ao (Ad.grow hk Ac.toks) fun Ah An=>?_;have Y:strIterType x = "str_ascii_iterator":=by unfold strIterType;rw [y];rfl
  rw [Y] at u;refine ⟨_,_,_,_,_,Aa,Ac,rfl,fun AS=>GX (F:=AS) (tk:=tk) hq hp (ib _),Ai,Ad,An,Ah,?_,?_,hG⟩
  case refine_2 =>
   intro AS Ab Aj kp hD ks;refine X1pp u fun oi eo r=>?_;exact ⟨⟨_,kp _ _ he⟩,⟨oi,kp _ _ eo,r⟩⟩
  rintro b (rfl | rfl)
  ·exact O 1
  ·exact O 0
end
end
section
variable {S:Sta}
noncomputable def Ji(env:Env):List (Str×cC)->List (Str×Addr)->List (Str×Addr)
 | [],acc=>acc
 | (n,k)::r,acc=>if k == .free then Ji env r ((n,(env.cells.lookup n).getD 0)::acc) else Ji env r acc
set_option tactic.hygienic true in
theorem Fq{env:Env}{y:Str}{c:Addr}:∀{names:List (Str×cC)}{acc:List (Str×Addr)},(y,c)∈Ji env names acc->((y,bO)∈names/\c=(env.cells.lookup y).getD 0)\/(y,c)∈acc
 | [],_,h=>.inr h
 | (n,k)::r,acc,h=>by
  unfold Ji at h
  split at h
  ·rename_i hk
   have z:k=bO:=by simpa using hk
   rcases Fq h with q | q
   ·exact .inl ⟨.tail _ q.1,q.2⟩
   ·rcases aD.mp q with e | q
    ·cases e;clear hk;subst z;exact .inl ⟨.head _,rfl⟩
    ·exact .inr q
  ·rcases Fq h with q | q
   ·exact .inl ⟨.tail _ q.1,q.2⟩
   ·exact .inr q
set_option tactic.hygienic true in
theorem CM{env:Env}{y:Str}:∀{names:List (Str×cC)}{acc:List (Str×Addr)},(y,bO)∈names\/(acc.lookup y).isSome=true->((Ji env names acc).lookup y).isSome=true
 | [],_,h=>h.elim (fun e=>by cases e) id
 | (n,k)::r,acc,h=>by
  unfold Ji
  split
  ·refine CM ?_
   by_cases q:(y == n)=true
   ·right;rw [cY,q];rfl
   ·rcases h with h | h
    ·rcases aD.mp h with e | h
     ·cases e;simp at q
     ·exact .inl h
    ·right;rw [cY];simpa only [q] using h
  ·rename_i hk
   refine CM ?_
   rcases h with h | h
   ·rcases aD.mp h with e | h
    ·cases e;simp at hk
    ·exact .inl h
   ·exact .inr h
theorem Da{env:Env}(f:Str×cC->List (Str×Addr)->Sem (ForInStep (List (Str×Addr))))
  (hf:∀name kind cs,f (name,kind) cs=if kind == .free then (do let a <- cellOf env name;pure (.yield ((name,a)::cs))) else pure (.yield cs)) :
  ∀(names:List (Str×cC))(acc:List (Str×Addr)),(∀p∈names,p.2=.free->∃c,env.cells.lookup p.1=some c)->forIn names acc f=pure (Ji env names acc)
 | [],acc,_=>by rw [List.forIn_nil];rfl
 | (n,k)::r,acc,h=>by
  rw [d0,hf];unfold Ji
  by_cases hk:(k == bO)=true
  ·rw [if_pos hk,if_pos hk]
   refine X1p (h (n,k) (.head _) (by simpa using hk)) fun c hc=>?_
   have:cellOf env n=pure c:=by unfold cellOf;rw [hc]
   rw [this,hc];exact Da f hf r _ fun p hp=>h p (.tail _ hp)
  ·rw [if_neg hk,if_neg hk]
   exact Da f hf r _ fun p hp=>h p (.tail _ hp)
theorem Fn{env:Env}{scope:Scope}(h:∀p∈scope.names,p.2=.free->∃c,env.cells.lookup p.1=some c):closureFor scope env=pure (Ji env scope.names []):=by
 unfold closureFor;dsimp only;rw [Da _ (fun name z cs=>by cases hkc:z == bO<;>simp [hkc]) scope.names [] h]
 rfl
set_option tactic.hygienic true in
theorem CN{y:Str}{c:Addr}:∀{names:List (Str×cC)}{h:Heap}{acc:List (Str×Addr)},(y,c)∈c7 h.objs.size names acc->(y,c)∈acc\/((fB h names).IsCell c aa/\h.objs.size<=c/\(y,dq)∈names)
 | [],_,_,h=>.inl h
 | (n,k)::r,hp,acc,h=>by
  unfold c7 at h;unfold fB
  split at h
  ·rename_i hk
   rw [if_pos hk];have hz:(hp.push { cls:=.type "cell",data:=.cell aa }).objs.size=hp.objs.size+1:=cG ..;rw [<- hz] at h
   rcases CN h with q | q
   ·rcases aD.mp q with e | q
    ·cases e
     have z:k=dq:=by simpa using hk
     clear hk;subst z;exact .inr ⟨⟨_,eM _ _ _ _ (aF _ rfl),rfl⟩,ay _,.head _⟩
    ·exact .inl q
   ·exact .inr ⟨q.1,by have:=q.2.1;rw [hz] at this;exact gM this,.tail _ q.2.2⟩
  ·rename_i hk
   rw [if_neg hk]
   rcases CN h with q | q
   ·exact .inl q
   ·exact .inr ⟨q.1,q.2.1,.tail _ q.2.2⟩
theorem D3:∀{names:List (Str×cC)}{n:Nat}{acc:List (Str×Addr)},(∀p∈acc,p.2<n)->(∀p∈acc,∀q∈acc,p.2=q.2->p.1=q.1)->∀p∈c7 n names acc,∀q∈c7 n names acc,p.2=q.2->p.1=q.1
 | [],_,_,_,h2=>h2
 | (x,k)::r,n,acc,h1,h2=>by
  unfold c7
  split
  ·refine D3 (fun p hp=>?_) fun p hp q hq e=>?_
   ·rcases aD.mp hp with rfl | hp
    ·exact ej n
    ·exact cL (h1 p hp)
   ·rcases aD.mp hp with rfl | hp<;>rcases aD.mp hq with rfl | hq
    ·rfl
    ·exact absurd e (e7 (h1 q hq))
    ·exact absurd e (bK (h1 p hp))
    ·exact h2 p hp q hq e
  ·exact D3 h1 h2
noncomputable def compEnv(scope:Scope)(env:Env)(cl:List (Str×Addr))(C:Addr):Env :=
 { scope:=relabel scope env,locals:=C,globals:=env.globals,cells:=c7 (C+1) scope.names cl,qual:=env.qual,func:=none,code:=env.code,frame:=env.frame,builtins:=env.builtins }
theorem GG{A:cz}{E:Value->ae->Prop}{s:ae}{scope:Scope}{env:Env}{cl:List (Str×Addr)}{M:Model}{Q:Env->ae->Prop}
  (h:Q { scope:=scope,locals:=s.heap.objs.size,globals:=env.globals,cells:=c7 (s.heap.objs.size+1) scope.names cl,qual:=env.qual,func:=none,code:=env.code,frame:=env.frame,builtins:=env.builtins }
   { s with heap:=fB (s.heap.push { cls:=.type "dict",data:=.dict #[] }) scope.names }) :
  wpAny M A (newFunctionEnv scope env.globals cl [] env.qual none .none (some env)) Q E s:=by
 simp only [newFunctionEnv,Option.isSome_some,if_true];refine ac (wpAny_alloc ?_);refine ac (wpAny_layCells _ (fun name z cells=>by cases hkc:z == dq<;>simp [hkc]) _ _ _ _ ?_)
 rw [show ({ s with heap:=s.heap.push { cls:=.type "dict",data:=.dict #[] } }:ae).heap.objs.size=s.heap.objs.size+1 from cG ..]
 exact ac (ag (ag h))
set_option tactic.hygienic true in
theorem FE{sc names:List (Str×cC)}{y:Str}{k:cC}(h:(y,k)∈relab sc names):(y,k)∈names\/(k=.cell/\(y,bO)∈names/\sc.lookup y=some .cell):=by
 unfold relab at h;obtain ⟨⟨n,k'⟩,hm,e⟩:=aZ.mp h;simp only at e
 split at e
 ·rename_i hc
  cases e
  simp only [bE,beq_iff_eq] at hc;obtain ⟨rfl,hc⟩:=hc;exact .inr ⟨rfl,hm,hc⟩
 ·cases e;exact .inl hm
theorem BA{sc:List (Str×cC)}{y:Str}{k:cC}:∀{names:List (Str×cC)},names.lookup y=some k->(relab sc names).lookup y=some (if (k == .free && sc.lookup y == some .cell) then .cell else k)
 | [],h=>by cases h
 | (n,k')::r,h=>by
  unfold relab;rw [bm]
  by_cases q:(y == n)=true
  ·rw [cY,q] at h
   cases h
   have:y=n:=by simpa using q
   clear q;subst this;simp only
   split<;>rw [cY]<;>simp
  ·rw [cY] at h
   simp only [q] at h;have ih:=BA (sc:=sc) (names:=r) h;simp only
   split<;>rw [cY]<;>simp only [q]<;>exact ih
section
variable {F:Fx S}{m:Vars}{V:Store}{s:ae}{scope:Scope}{x:Str}{i:Nat}
theorem BI(F:Fx S)(scope:Scope):(relabel scope F.env).names=relab F.sc scope.names:=by
 unfold relabel relab;simp only [F.fk,beq_self_eq_true,Bool.and_true]
 rfl
structure CompOk(F:Fx S)(scope:Scope)(x:Str)(i:Nat):Prop where
 kind:scope.kind=.function
 var:scope.names.lookup x=some .local\/scope.names.lookup x=some .cell
 ok:okName x=true
 ix:ixS F.tb x=some i
 names:∀q∈scope.names,DF F.tb F.sc x q=true/\scope.names.lookup q.1=some q.2
theorem CompOk.free(c:CompOk F scope x i){y:Str}(h:(y,bO)∈scope.names):F.sc.lookup y=some .cell:=by
 have:=(c.names _ h).1
 simpa [DF] using this
theorem CompOk.own(c:CompOk F scope x i){y:Str}{k:cC}{j:Nat}(h:(y,k)∈scope.names)(hk:k=.local\/k=.cell)(hj:ixS F.tb y=some j):j=i:=by
 have:=(c.names _ h).1
 rcases hk with rfl | rfl <;>
 ·simp only [DF,hj,c.ix,Option.isNone_some,Bool.false_or,beq_iff_eq,d6] at this
  exact this
theorem CompOk.cl(c:CompOk F scope x i):∀p∈scope.names,p.2=.free->∃a,F.env.cells.lookup p.1=some a:=by
 intro u hp B;obtain ⟨y,k⟩:=u;subst B;exact F.fc y (c.free hp)
theorem CompOk.closure(c:CompOk F scope x i):closureFor scope F.env=pure (Ji F.env scope.names []):=Fn c.cl
theorem CompOk.clCell(c:CompOk F scope x i){y:Str}{a:Addr}(h:(y,a)∈Ji F.env scope.names []):(y,bO)∈scope.names/\F.env.cells.lookup y=some a:=by
 rcases Fq h with q | q
 ·refine X1p (c.cl _ q.1 rfl) fun a' ha=>?_
  have:=q.2
  simp only at ha;rw [ha] at this;exact ⟨q.1,by rw [this];exact ha⟩
 ·cases q
end
end
section
variable {S:Sta}
section
variable {F:Fx S}{m Am:Vars}{V Aa:Store}{s Ac:ae}{scope:Scope}{x:Str}{i:Nat}
noncomputable abbrev ccl(F:Fx S)(scope:Scope):List (Str×Addr):=Ji F.env scope.names []
noncomputable abbrev EN(F:Fx S)(scope:Scope)(C:Addr):Env:=compEnv scope F.env (ccl F scope) C
theorem D4(C:Addr)(y:Str):(EN F scope C).kindOf y=(relab F.sc scope.names).lookup y:=by
 show (relabel scope F.env).names.lookup y=_;rw [BI]
theorem CompOk.fc(c:CompOk F scope x i)(C:Addr):∀y,(EN F scope C).kindOf y=some .cell->∃a,(EN F scope C).cells.lookup y=some a:=by
 intro y hy;rw [D4] at hy;refine cf.mp (fe _ _ _ ?_)
 rcases FE (mem_of_lookup hy) with q | ⟨_,q,_⟩
 ·exact .inl ((c.names _ q).2)
 ·exact .inr (CM (.inl q))
noncomputable def Bn(c:CompOk F scope x i)(D C:Addr):Fx S :=
 ⟨F.A,F.tb,EN F scope C,F.b,fun a=>F.N a\/a=D\/Own (EN F scope C) a,F.k,F.room.wide (fun Z q=>.inl q),c.kind,F.fg,F.fb,c.fc C⟩
structure B3(F:Fx S)(scope:Scope)(s:ae)(C:Addr):Prop where
 out:∀a,Own (EN F scope C) a->(∃y,(y,bO)∈scope.names/\F.env.cells.lookup y=some a)\/s.heap.get? a=aa
theorem CompOk.own_out(c:CompOk F scope x i){C:Addr}{h:Heap}(hC:h.objs.size=C+1)(hn:∀a,C<=a->s.heap.get? a=aa):B3 F scope s C:=by
 constructor
 rintro a (rfl | ⟨y,hy⟩)
 ·exact .inr (hn _ (ay _))
 ·have hm:=mem_of_lookup hy
  have U:(y,a)∈c7 h.objs.size scope.names (ccl F scope):=by rw [hC];exact hm
  rcases CN U with q | q
  ·exact .inl ⟨y,c.clCell q⟩
  ·exact .inr (hn a (gM (by have:=q.2.1;rw [hC] at this;exact this)))
theorem comp_in(c:CompOk F scope x i)(hs:F.St m V s) :
  let D:=s.heap.objs.size
  let Ad:=(s.heap.push (AB #[] 0)).push { cls:=.type "dict",data:=.dict #[] }
  let Bw:ae:={ s with heap:=fB Ad scope.names }
  (Bn c D (D+1)).St (fun j=>if j=i then aa else m j) V Bw/\Step noO noO V s V Bw/\Bw.heap.get? D=some (AB #[] 0)/\B3 F scope s (D+1)/\(∀b o,s.heap.get? b=some o->Bw.heap.get? b=some o)/\(∀b,(Bn c D (D+1)).D V b->F.D V b\/s.heap.get? b=aa)/\¬Own (EN F scope (D+1)) D:=by
 intro D Ad Bw;have Z0:(s.heap.push (AB #[] 0)).objs.size=D+1:=cG ..;have hz:Ad.objs.size=D+1+1:=(cG ..).trans (by rw [Z0])
 have kp:∀b o,s.heap.get? b=some o->Bw.heap.get? b=some o:=fun b o e=>eM _ _ _ _ (ax _ (ax _ e));have fresh:∀a,D<=a->s.heap.get? a=aa:=fun a ha=>by
  cases q:s.heap.get? a with
  | none=>rfl
  | some o=>exact absurd (bh q) (cO.mpr ha)
 have cn:B3 F scope s (D+1):=c.own_out (h:=Ad) hz fun a ha=>fresh a (gM ha);have gD:Bw.heap.get? D=some (AB #[] 0):=eM _ _ _ _ (ax _ (aF _ rfl));have gC:Ad.get? (D+1)=some { cls:=.type "dict",data:=.dict #[] }:=by rw [<- Z0];exact aF _ rfl
 refine Ao (hs.grow kp s.toks) fun Z st=>?_;obtain ⟨mc,cm,n,cc,ow,ap,cl,rr⟩:=hs.loc;have FO:∀{y a},F.env.cells.lookup y=some a->F.O a:=fun h=>.inr ⟨_,h⟩;have hDN:∀b,DN (Bn c D (D+1)).N V b->DN F.N V b\/s.heap.get? b=aa:=by
  rintro b (q | q | q | q)
  ·exact .inl (.inl q)
  ·exact .inl (.inr q)
  ·exact .inr (q▸fresh D (ay _))
  ·rcases cn.out b q with ⟨y,_,hy⟩ | q
   ·exact .inl (.inr (hs.own b (FO hy)))
   ·exact .inr q
 have e0:Ext (DN F.N V) s.heap Bw.heap:=Ext.of_keeps kp;have T:∀{y a},(EN F scope (D+1)).cells.lookup y=some a->((y,bO)∈scope.names/\F.env.cells.lookup y=some a)\/(Bw.heap.IsCell a aa/\D+2<=a/\(y,dq)∈scope.names):=by
  intro y a hy;have hm:(y,a)∈c7 Ad.objs.size scope.names (ccl F scope):=by rw [hz];exact mem_of_lookup hy
  rcases CN hm with q | ⟨q1,q2,q3⟩
  ·exact .inl (c.clCell q)
  ·exact .inr ⟨q1,by rw [hz] at q2;exact q2,q3⟩
 have U:∀{y k k'},(y,k)∈scope.names->(y,k')∈scope.names->k=k':=by
  intro y k k' h1 h2;have a1:=(c.names _ h1).2;have a2:=(c.names _ h2).2;simp only at a1 a2;rw [a1] at a2;exact ar a2
 refine ⟨⟨⟨?_,hs.inv.gens,hs.inv.drawn,hs.inv.os,hs.inv.σg,?_,?_,?_⟩,?_,hs.frm.trans st.any,fun a q=>.inl (hs.pN a q),?_,fun a q=>.inr (.inr q),hs.gb⟩,st,gD,cn,kp,hDN,?_⟩
 ·exact fun b o e=>kp b o (hs.inv.keep b o e)
 ·rintro a d (q | q | q)
  ·exact hs.inv.σN a d q
  ·exact hs.inv.not_dom (q▸fresh D (ay _)) d
  ·rcases cn.out a q with ⟨y,_,hy⟩ | q
   ·exact hs.inv.σN a d (hs.own a (FO hy))
   ·exact hs.inv.not_dom q d
 ·rintro a (q | q | q | ⟨y,hy⟩)
  ·refine X1pp (hs.inv.Nin a q) fun o e nf=>?_;exact ⟨o,kp a o e,nf⟩
  ·exact ⟨_,q▸gD,fun vs z=>by cases z⟩
  ·have q':a=D+1:=q
   exact ⟨_,by rw [q'];exact eM _ _ _ _ gC,fun vs z=>by cases z⟩
  ·rcases T hy with ⟨_,hy⟩ | ⟨⟨o,e,dd⟩,_⟩
   ·refine X1pp (cc y a hy) fun o e dd=>?_;exact ⟨o,kp a o e,fun vs z=>by rw [dd] at z;cases z⟩
   ·exact ⟨o,e,fun vs z=>by rw [dd] at z;cases z⟩
 ·exact fun a o e=>(hs.inv.rep a o e).ext e0 hDN (kp a)
 ·refine ⟨fun Z=>aa,fun y=>if (y,dq)∈scope.names then aa else cm y,?_,?_,?_,?_,?_,?_⟩
  ·have:Ad.Ns (D+1) (fun Z=>aa):=by rw [<- Z0];exact Heap.Ns.new _ _
   exact this.keeps (eM _ _)
  ·intro y a hy
   rcases T hy with ⟨hf,hy⟩ | ⟨q,_,hc⟩
   ·have:¬(y,dq)∈scope.names:=fun h=>by cases U h hf
    simp only [if_neg this];exact (cc y a hy).keeps kp
   ·simp only [if_pos hc];exact q
  ·intro a q
   rcases cn.out a q with ⟨y,_,hy⟩ | q
   ·exact ow a (FO hy)
   ·exact ⟨hs.inv.not_dom q,hs.inv.not_g q⟩
  ·intro y z a hy hz'
   refine D3 (n:=D+1+1) (names:=scope.names) (acc:=ccl F scope) ?_ ?_ (y,a) (mem_of_lookup hy) (z,a) (mem_of_lookup hz') rfl
   ·intro u hp
    obtain ⟨p1,p2⟩:=u;refine Ao (c.clCell hp) fun Z hl=>?_
    have:=(cc p1 p2 hl).lt
    show p2<D+1+1;exact Nat.lt_of_lt_of_le this (dr _ 2)
   ·intro u hp hR2 hq e
    obtain ⟨p1,p2⟩:=u;obtain ⟨q1,q2⟩:=hR2;simp only at e;subst e;exact ap _ _ _ (c.clCell hp).2 (c.clCell hq).2
  ·intro y a hy
   rcases T hy with ⟨_,hy⟩ | ⟨_,q,_⟩
   ·have:=(cc y a hy).lt
    exact bK (cL this)
   ·exact e7 q
  ·intro y j av hj hm
   have Y:j≠i:=fun e=>by rw [if_pos e] at hm;cases hm
   rw [if_neg Y] at hm;show LocAt _ _ _ _ _ _ ((EN F scope (D+1)).kindOf y) _ _
   cases hk:(EN F scope (D+1)).kindOf y with
   | none=>trivial
   | some k =>
    have B:=hk;rw [D4] at B
    rcases FE (mem_of_lookup B) with q | ⟨rfl,q,q2⟩
    ·cases k with
     | «local»=>exact absurd (c.own q (.inl rfl) hj) Y
     | cell=>exact absurd (c.own q (.inr rfl) hj) Y
     | free =>
      have e1:=(c.names _ q).2;simp only at e1;rw [BA e1,c.free q] at B;simp at B
     | globalExplicit=>trivial
     | globalImplicit=>trivial
    ·have:=rr y j av hj hm
     have kd:F.env.kindOf y=F.sc.lookup y:=rfl;rw [kd,q2] at this;refine X2ppp this fun v a h0 h1 h2=>?_;refine X1p (c.fc (D+1) y hk) fun a' ha'=>?_;have hmem:¬(y,dq)∈scope.names:=fun h=>by cases U h q
     refine ⟨v,a',ha',by simp only [if_neg hmem];exact h1,h2.ext e0 hDN⟩
 ·intro a q
  rcases cn.out a q with ⟨y,_,hy⟩ | q
  ·exact hs.new a (FO hy)
  ·exact hs.frm.new q
 ·rintro (q | ⟨y,hy⟩)
  ·exact absurd (show D=D+1 from q) (bK (ej D))
  ·rcases T hy with ⟨_,hy⟩ | ⟨_,q,_⟩
   ·exact absurd (cc y D hy).lt (Nat.lt_irrefl _)
   ·exact absurd q (Nat.not_le.mpr (cL (ej D)))
theorem Lr(c:CompOk F scope x i){D C:Addr}(cn:B3 F scope s C)(y:Step F.P (Bn c D C).O V s Aa Ac):Step F.P F.O V s Aa Ac:=by
 have oo:∀{b o},s.heap.get? b=some o->(Bn c D C).O b->F.O b:=fun {b o} e q=>by
  rcases cn.out b q with ⟨z,_,hz⟩ | q
  ·exact .inr ⟨z,hz⟩
  ·rw [q] at e;cases e
 exact ⟨⟨fun b o e d=>y.ext.obj b o e fun q=>d (q.imp id fun q=>q.imp (oo e) id)⟩,fun b o e n ho d=>y.frm b o e n (fun q=>ho (oo e q)) d,y.dom,y.there⟩
open Classical in
set_option tactic.hygienic true in
theorem Ls(c:CompOk F scope x i){C:Addr}(cn:B3 F scope s C)(hs:F.St m V s){Np:Addr->Prop}(hN:∀b,Np b->F.N b\/s.heap.get? b=aa)(hN2:∀b,F.N b->Np b)(stF:Step F.P F.O V s Aa Ac)(u:Inv S Np Aa Ac)(frm':Step F.P noO F.b.1 F.b.2 Aa Ac)
  (out:∀a o,s.heap.get? a=some o->F.O a->¬Own (EN F scope C) a->∃o',Ac.heap.get? a=some o'/\o'.cls=o.cls/\o'.data=o.data/\o'.dict=o.dict)
  (cm':Str->Option Value) (hcm:∀z a,(z,bO)∈scope.names->(EN F scope C).cells.lookup z=some a->Ac.heap.IsCell a (cm' z))
  (hcv:∀z j av,(z,bO)∈scope.names->ixS F.tb z=some j->j≠i->m j=some av->∃v,cm' z=some v/\Rep S.cv Ac.heap (DN Np Aa) av v):Mine.Internal.St S F.tb F.env Np F.P F.b m Aa Ac:=by
 have FO:∀{y a},F.env.cells.lookup y=some a->F.O a:=fun h=>.inr ⟨_,h⟩;obtain ⟨mc,cm,n,cc,ow,ap,cl,rr⟩:=hs.loc;have U:∀{y k k'},(y,k)∈scope.names->(y,k')∈scope.names->k=k':=by
  intro y k k' h1 h2;have a1:=(c.names _ h1).2;have a2:=(c.names _ h2).2;simp only at a1 a2;rw [a1] at a2;exact ar a2
 have B:∀{av v},Rep S.cv s.heap (DN F.N V) av v->Rep S.cv Ac.heap (DN Np Aa) av v:=fun r=>r.ext (stF.ext.mono fun a h=>h.imp id fun h=>h.elim (hs.own a) (hs.pN a)) fun b h=>h.elim (fun h=>(stF.dom b h).imp .inl id) fun h=>(hN b h).imp .inr id;have Y:∀{z a},F.env.cells.lookup z=some a->Own (EN F scope C) a->(z,bO)∈scope.names:=by
  intro z a hz ha;refine X1pp (cc z a hz) fun o e Z=>?_
  rcases cn.out a ha with ⟨z',hf,hz'⟩ | q
  ·have:=ap _ _ _ hz hz'
   clear hz';subst this;exact hf
  ·rw [e] at q;cases q
 have lk:∀{z a b},F.env.cells.lookup z=some a->(z,bO)∈scope.names->(EN F scope C).cells.lookup z=some b->b=a:=by
  intro z a b hz hf hb;have hm:(z,b)∈c7 (C+1) scope.names (ccl F scope):=mem_of_lookup hb;have gen:∀{names:List (Str×cC)}{k:Nat}{acc:List (Str×Addr)},(z,b)∈c7 k names acc->(z,b)∈acc\/(z,dq)∈names:=by
   intro names
   induction names with
   | nil=>intro k acc h;exact .inl h
   | cons p r ih =>
    intro k acc h;obtain ⟨pn,pk⟩:=p;unfold c7 at h
    split at h
    ·rename_i hk
     have hk':pk=dq:=by simpa using hk
     clear hk;subst hk'
     rcases ih h with q | q
     ·rcases aD.mp q with e | q
      ·cases e;exact .inr (.head _)
      ·exact .inl q
     ·exact .inr (.tail _ q)
    ·rcases ih h with q | q
     ·exact .inl q
     ·exact .inr (.tail _ q)
  rcases gen hm with q | q
  ·have:=(c.clCell q).2
   rw [hz] at this;exact (ar this).symm
  ·cases U q hf
 refine ⟨u,⟨mc,fun z=>if (z,bO)∈scope.names then cm' z else cm z,?_,?_,?_,ap,cl,?_⟩,frm',(fun a q=>hN2 a (hs.pN a q)),hs.new,fun a q=>hN2 a (hs.own a q),hs.gb⟩
 ·refine X3ppp n fun o es ep e d r=>?_
  have hn:¬Own (EN F scope C) F.env.locals:=fun q=>by
   rcases cn.out _ q with ⟨z,_,hz⟩ | q
   ·exact cl z _ hz rfl
   ·rw [e] at q;cases q
  refine X1pppp (out _ _ e (.inl rfl) hn) fun o' e' Z d' Z=>?_;exact ⟨o',es,ep,e',d'.trans d,r⟩
 ·intro z a hz
  by_cases hf:(z,bO)∈scope.names
  ·simp only [if_pos hf]
   refine X1p (cf.mp (fe (x:=z) scope.names (C+1) (ccl F scope) (.inr (CM (.inl hf))))) fun b hb=>?_
   have:=lk hz hf hb
   clear hz;subst this;exact hcm z b hf hb
  ·simp only [if_neg hf]
   have hn:¬Own (EN F scope C) a:=fun q=>hf (Y hz q);refine X1pp (cc z a hz) fun o e d=>?_;refine X1pppp (out _ _ e (FO hz) hn) fun o' e' Z d' Z=>?_;exact ⟨o',e',d'.trans d⟩
 ·intro a ha
  exact ⟨fun d=>u.σN a d (hN2 a (hs.own a ha)),(ow a ha).2⟩
 ·intro z j av hj hmj
  have T:=rr z j av hj hmj;have kd:F.env.kindOf z=F.sc.lookup z:=rfl
  by_cases hf:(z,bO)∈scope.names
  ·have q2:=c.free hf
   rw [kd,q2] at T ⊢;refine X2ppp T fun v a h0 Z Z=>?_;have hji:j≠i:=by
    rintro rfl
    have:z=x:=BK hj c.ix
    subst this
    rcases c.var with q | q<;>cases U (mem_of_lookup q) hf
   refine X1pp (hcv z j av hf hj hji hmj) fun v' h1' h2'=>?_;exact ⟨v',a,h0,by simp only [if_pos hf];exact h1',h2'⟩
  ·exact LocAt.map T (fun h2=>B h2) (fun Z h1=>h1) (fun Z h1=>by simp only [if_neg hf];exact h1)
theorem H7(c:CompOk F scope x i){D C:Addr}{h':Heap}{ys:List AV}{vs:List Value}{n:Nat}(cn:B3 F scope s C)(hs:F.St m V s)(Y:s.heap.get? D=aa)(hCs:s.heap.get? C=aa)(U:D≠C)
  (y:Step F.P (Bn c D C).O V s Aa Ac) (Ad:(Bn c D C).St Am Aa Ac) (hm:∀j,j≠i->Am j=m j) (hb:ir C Ac.heap h') (gD:Ac.heap.get? D=some (AB vs.toArray n)) (rl:RepL S.cv Ac.heap ((Bn c D C).D Aa) ys vs)
  {Np:Addr->Prop} (u:∀b,Np b->F.N b\/b=C) (hN2:∀b,F.N b->Np b) (hex:Np C->∃o,h'.get? C=some o/\∀vs,o.data≠.fields vs)
  {Q:AV->Store->Prop} (q:Fresh Aa (.list ys) (.list ys) Q):∃V',Step F.P F.O V s V' { Ac with heap:=h' }/\Mine.Internal.St S F.tb F.env Np F.P F.b m V' { Ac with heap:=h' }/\∃av,Rep S.cv h' (DN Np V') av (.ref D)/\Q av V':=by
 have stF:=Lr c cn y;obtain ⟨mc',cm',n',cc',ow',ap',cl',rr'⟩:=Ad.loc;have oC:Own (EN F scope C) C:=.inl rfl;have nC:∀{b o},s.heap.get? b=some o->b≠C:=fun e q=>by rw [q,hCs] at e;cases e
 have B:∀b o,b≠C->Ac.heap.get? b=some o->h'.get? b=some o:=fun b o ne e=>hb.extBut b o ne e;have e0:Ext (DN (Bn c D C).N Aa) Ac.heap h':=Ext.of_but fun b o d e=>B b o (fun q=>d (.inr (.inr (.inr (q▸oC))))) e;have nFN:¬F.N D:=fun q=>by refine X1pp (hs.inv.Nin D q) fun o e nf=>?_;rw [Y] at e;cases e
 have nNp:¬Np D:=fun q=>(u D q).elim nFN U;have T:∀b,Np b->(Bn c D C).N b:=fun b q=>(u b q).elim .inl fun q=>.inr (.inr (q▸oC));have Ka:¬Dom Aa D:=fun d=>Ad.inv.σN D d (.inr (.inl rfl));have mk:∀V':Store,(∀a o,V' a=some o->Aa a=some o\/(a=D/\o=.list ys))->Mine.Internal.St S F.tb F.env Np F.P F.b m V' { Ac with heap:=h' }/\Step F.P F.O V s V' { Ac with heap:=h' }:=by
  intro V' ho;have hd:∀a,Dom V' a->Dom Aa a\/a=D:=fun a d=>by
   cases e:V' a with
   | none=>exact absurd e d
   | some o=>exact (ho a o e).imp (fun q=>by unfold Dom;rw [q];simp) fun q=>q.1
  have hDN:∀b,DN Np V' b->DN (Bn c D C).N Aa b:=fun b q=>q.elim (fun q=>(hd b q).elim .inl fun q=>.inr (.inr (.inl q))) fun q=>.inr (T b q);have stF':Step F.P F.O V s V' { Ac with heap:=h' }:=⟨⟨fun b o e d=>B b o (nC e) (stF.ext.obj b o e d)⟩,fun b o e d f g=>by
    refine X1pp (stF.frm b o e d f g) fun o' e' r=>?_;exact ⟨o',B b o' (nC e) e',r⟩,fun b d=>(hd b d).elim (stF.dom b) fun q=>.inr (q▸Y),fun b o e=>by
    refine X1p (stF.there b o e) fun o' e'=>?_;exact ⟨o',B b o' (nC e) e'⟩⟩
  have inv':Inv S Np V' { Ac with heap:=h' }:=by
   refine ⟨fun b o e=>B b o (fun q=>?_) (Ad.inv.keep b o e),Ad.inv.gens,Ad.inv.drawn,Ad.inv.os,fun a d=>(hd a d).elim (Ad.inv.σg a) fun q=>q▸hs.inv.not_g Y,fun a d q=>(hd a d).elim (fun d=>Ad.inv.σN a d (T a q)) fun z=>nNp (z▸q),fun a q=>?_,fun a o e=>?_⟩
   ·clear cn hCs U y Ad hb rl u hex n' cc' ap' cl' rr' nC B e0 T hDN;subst q
    have:=(ow' b oC).2
    rw [this] at e;cases e
   ·rcases u a q with q' | q'
    ·refine X1pp (hs.inv.Nin a q') fun o e nf=>?_
     refine X1pp (Ad.inv.Nin a (.inl q')) fun o' e' nf'=>?_;exact ⟨o',B a o' (nC e) e',nf'⟩
    ·rw [q'] at q ⊢;exact hex q
   ·rcases ho a o e with q | ⟨rfl,rfl⟩
    ·exact (Ad.inv.rep a o q).ext e0 (fun b z=>.inl (hDN b z)) fun ob e'=>B a ob (fun z=>Ad.inv.σN a (by unfold Dom;rw [q];simp) (.inr (.inr (z▸oC)))) e'
    ·exact .list (B _ _ U gD) (rl.ext e0 fun b z=>.inl (hDN b z))
  have frm':Step F.P noO F.b.1 F.b.2 V' { Ac with heap:=h' }:=by
   have bC:∀{b o},F.b.2.heap.get? b=some o->b≠C:=fun {b o} e q=>by
    refine X1p (hs.frm.there b o e) fun o' e'=>?_;exact nC e' q
   have bD:F.b.2.heap.get? D=aa:=hs.frm.new Y;have f:=Ad.frm;exact ⟨⟨fun b o e d=>B b o (bC e) (f.ext.obj b o e d)⟩,fun b o e d g x=>by
    refine X1pp (f.frm b o e d g x) fun o' e' r=>?_;exact ⟨o',B b o' (bC e) e',r⟩,fun b d=>(hd b d).elim (f.dom b) fun q=>.inr (q▸bD),fun b o e=>by
    refine X1p (f.there b o e) fun o' e'=>?_;exact ⟨o',B b o' (bC e) e'⟩⟩
  refine ⟨Ls c cn hs (fun b q=>(u b q).imp id fun (q:b=C)=>by rw [q];exact hCs) hN2 stF' inv' frm' ?_ cm' ?_ ?_,stF'⟩
  ·intro a o e ha hn
   obtain ⟨_,_,_,_,ow,_,_,_⟩:=hs.loc;refine X1pp (y.there' e (ow a ha).1 hn) fun o' e' r=>?_;exact ⟨o',B a o' (nC e) e',r⟩
  ·intro z a hf hz
   refine X1pp (cc' z a hz) fun o e d=>?_;exact ⟨o,B a o (cl' z a hz) e,d⟩
  ·intro z j av hf hj hji hmj
   have hk:(Bn c D C).env.kindOf z=some .cell:=by
    show (EN F scope C).kindOf z=_;rw [D4,BA ((c.names _ hf).2),c.free hf];simp
   have new:=rr' z j av hj ((hm j hji).trans hmj);rw [hk] at new;refine X2ppp new fun v a Z h1 h2=>?_;exact ⟨v,h1,h2.ext e0 fun b q=>.inl (hDN b q)⟩
 rcases q with q | ⟨i,q⟩
 ·refine Ao (mk Aa fun a o e=>.inl e) fun h2 st2=>?_
  exact ⟨Aa,st2,h2,_,.list (B _ _ U gD) (fun d=>d.elim Ka nNp) (rl.ext e0 fun b z=>.inl (z.imp id (T b))),q⟩
 ·obtain ⟨h2,st2⟩:=mk (Aa.set D (.list ys)) fun a o e=>by
   by_cases z:a=D
   ·clear Y U y Ad gD rl n' cc' ow' ap' cl' rr' e0 nFN nNp T Ka mk;subst z;rw [Store.set_self] at e;exact .inr ⟨rfl,(ar e).symm⟩
   ·rw [Store.set_ne _ _ z] at e;exact .inl e
  exact ⟨_,st2,h2,_,.loc D i,q D Ka⟩
theorem St.letGo{tb:List Nat}{env:Env}{N Np P:Addr->Prop}{b:Store×ae}{m:Vars}{V:Store}{s:ae}{h':Heap}{C:Addr}(hs:Mine.Internal.St S tb env Np P b m V s)(hC:Np C)(hN:∀a,N a->Np a)(O:∀a,P a->N a)(nC:¬N C)(ho:∀a,Own env a->N a)(U:b.2.heap.get? C=aa)
  (hb:ir C s.heap h'):Mine.Internal.St S tb env N P b m V { s with heap:=h' }/\∀{av v},Rep S.cv s.heap (DN Np V) av v->Rep S.cv h' (DN N V) av v:=by
 have B:∀b o,b≠C->s.heap.get? b=some o->h'.get? b=some o:=fun b o ne e=>hb.extBut b o ne e;have e0:Ext (DN Np V) s.heap h':=Ext.of_but fun b o d e=>B b o (fun q=>d (.inr (q▸hC))) e;have hD:∀b,DN N V b->DN Np V b\/s.heap.get? b=aa:=fun b q=>.inl (q.imp id (hN b));have rep:∀{av v},Rep S.cv s.heap (DN Np V) av v->Rep S.cv h' (DN N V) av v:=fun r=>r.ext e0 hD;obtain ⟨mc,cm,n,cc,ow,ap,cl,rr⟩:=hs.loc;have oC:∀a,Own env a->a≠C:=fun a q z=>nC (z▸ho a q);refine ⟨⟨⟨fun a o e=>B a o (fun q=>?_) (hs.inv.keep a o e),hs.inv.gens,hs.inv.drawn,hs.inv.os,hs.inv.σg,fun a d q=>hs.inv.σN a d (hN a q),fun a q=>?_,fun a o e=>(hs.inv.rep a o e).ext e0 hD fun ob e'=>B a ob (fun z=>hs.inv.σN a (by unfold Dom;rw [e];simp) (z▸hC)) e'⟩,?_,?_,O,hs.new,ho,hs.gb⟩,rep⟩
 ·clear hC nC hb B oC;subst q;rw [hs.gb a U] at e;cases e
 ·refine X1pp (hs.inv.Nin a (hN a q)) fun o e nf=>?_;exact ⟨o,B a o (fun z=>nC (z▸q)) e,nf⟩
 ·refine ⟨mc,cm,?_,fun z a hz=>?_,ow,ap,cl,fun z j av hj hm=>?_⟩
  ·refine X3pp n fun o es ep e d=>?_;exact ⟨o,es,ep,B _ _ (oC _ (.inl rfl)) e,d⟩
  ·refine X1pp (cc z a hz) fun o e d=>?_;exact ⟨o,B _ _ (oC _ (.inr ⟨z,hz⟩)) e,d⟩
  ·exact LocAt.map (rr z j av hj hm) (fun h2=>rep h2) (fun Z h1=>h1) (fun Z h1=>h1)
 ·have bC:∀{a o},b.2.heap.get? a=some o->a≠C:=fun e z=>by rw [z,U] at e;cases e
  have f:=hs.frm;exact ⟨⟨fun a o e d=>B a o (bC e) (f.ext.obj a o e d)⟩,fun a o e d g x=>by
   refine X1pp (f.frm a o e d g x) fun o' e' r=>?_;exact ⟨o',B a o' (bC e) e',r⟩,f.dom,fun a o e=>by
   refine X1p (f.there a o e) fun o' e'=>?_;exact ⟨o',B a o' (bC e) e'⟩⟩
end
end
section
variable {S:Sta}
noncomputable abbrev NoX:Value->ae->Prop:=fun Z Z=>False
theorem F3{A:cz}{R:Result->ae->Prop}{s:ae}{u Y y:ai}{T:List ai}{scope:Scope}{pos:Pos}{it acc:Value}{env:Env}(I:Nat->ae->Prop)
  (turn:∀n s,I n s->wpAny (model S.prog S.w) A (pyNext it) (fun r Ac=>match r with
   | none=>R (.ok .next) Ac
   | some v=>wpAny (model S.prog S.w) A (letOwnedTupleGo Y it v) (fun Z z=>wpAny (model S.prog S.w) A (assign Y env v) (fun Z Aj =>
     wpAny (model S.prog S.w) A (forIn T true fun c r=>if r=true then do let ok <- isTrue c env (eval c env);pure (fZ ok) else pure (fZ r)) (fun ok BB =>
      if ok=true then wpAny (model S.prog S.w) A (eval u env) (fun x Bw =>
       wpAny (model S.prog S.w) A (call (.builtin "list.append") [acc,x]) (fun Z It=>∃m,m<n/\I m It) NoX Bw) NoX BB
      else ∃m,m<n/\I m BB) NoX Aj) NoX z) NoX Ac) NoX s)
  (n:Nat) (h:I n s):codeAny (model S.prog S.w) A (.compLoop (.ListComp u [⟨Y,y,T,0⟩] scope pos) 0 it acc env) R s:=by
 refine codeAny_loop rfl I (fun n s hI=>?_) n h;show wpAny _ A ((compTurn (.ListComp u [⟨Y,y,T,0⟩] scope pos) 0 it acc env).onRaise (fun x=>do noteFrame x env;theTreesLotGoes x)) _ _ s
 refine wpAny_noted (wpAny_noRaise ?_);rw [compTurn_list];refine ac (dn (ac (aV (turn n s hI) (fun r Ac Ad=>?_) fun Z Z h'=>h')))
 cases r with
 | none=>exact ag Ad
 | some v =>
  refine ac (aV Ad (fun Z z U=>?_) fun Z Z h'=>h');refine ac (aV U (fun Z Aj Ah=>ac (aV Ah (fun ok BB AI=>?_) fun Z Z h'=>h')) fun Z Z h'=>h')
  cases ok with
  | false=>exact ag ⟨rfl,AI⟩
  | true =>
   exact ac (ac (aV AI (fun x Bw Bx=>ac (aV Bx (fun Z It GS=>ag (ag ⟨rfl,GS⟩)) fun Z Z h'=>h')) fun Z Z h'=>h'))
noncomputable def TestT(F:Fx S)(m:Vars)(V:Store)(cs:List E)(Q:Bool->Store->Prop):Prop:=match cs with
 | []=>Q true V
 | [c]=>TT F m V c Q NoX
 | _=>False
theorem TestT.run{F:Fx S}{m:Vars}{V:Store}{s:ae}{cs:List E}{pcs:List ai}{Q:Bool->Store->Prop}(h:TestT F m V cs Q)(hc:CEs F.tb F.sc pcs cs)(hs:F.St m V s) :
  W F m V s (forIn pcs true fun c r=>if r=true then do let ok <- isTrue c F.env (eval c F.env);pure (fZ ok) else pure (fZ r)) (fun b V' Z=>Q b V') NoX:=by
 match cs,h with
 | [],h=>obtain rfl:=hc.inv_nil;exact wpAny_tests_nil ⟨V,Step.refl _ _ _ _,hs,h⟩
 | [c],h =>
  refine X2lppp pcs hc.inv fun Z Z hn he hr=>?_;obtain rfl:=hr.inv_nil;exact wpAny_tests_one (h _ he s hs)
noncomputable def Fs(F:Fx S)(i:Nat)(elt:E)(cs:List E)(ok:Store->Store->Prop)(m:Vars)(K:List AV->Store->Prop):List AV->List AV->Store->Prop
 | [],ys,V=>K ys V
 | x::r,ys,V=>TestT F (m.set i x) V cs (fun b Aa=>if b=true then ET F (m.set i x) Aa elt (fun y Ab=>ok V Ab/\Fs F i elt cs ok m K r (ys++[y]) Ab) NoX else ok V Aa/\Fs F i elt cs ok m K r ys Aa)
section
variable {F:Fx S}{m:Vars}{V:Store}{s:ae}{scope:Scope}{x:Str}{i:Nat}
theorem set_over{m m':Vars}{i:Nat}{x:AV}(h:∀j,j≠i->m' j=m j):m'.set i x=m.set i x:=by
 funext j
 unfold Vars.set
 by_cases q:j=i
 ·simp [q]
 ·simp [q,h j q]
theorem RepL.snoc{cv:Nat->Value}{h:Heap}{D:Addr->Prop}{a:AV}{v:Value}{l:List AV}{vs:List Value}(r:RepL cv h D l vs)(r':Rep cv h D a v):RepL cv h D (l++[a]) (vs++[v]):=r.app (.cons r' .nil)
theorem St.turnN{tb:List Nat}{env:Env}{N P:Addr->Prop}{b:Store×ae}{m:Vars}{V:Store}{s:ae}{h':Heap}{C:Addr}(hs:Mine.Internal.St S tb env N P b m V s)(hC:N C)(nO:¬Own env C)(U:b.2.heap.get? C=aa)
  (hb:di C s.heap h') (y:∃o,h'.get? C=some o/\∀vs,o.data≠.fields vs):Mine.Internal.St S tb env N P b m V { s with heap:=h' }/\Step P (·=C) V s V { s with heap:=h' }:=by
 have B:∀b o,b≠C->s.heap.get? b=some o->h'.get? b=some o:=fun b o ne e=>hb b o ne e;have e0:Ext (DN N V) s.heap h':=Ext.of_but fun b o d e=>B b o (fun q=>d (.inr (q▸hC))) e;have hD:∀b,DN N V b->DN N V b\/s.heap.get? b=aa:=fun b q=>.inl q;have rep:∀{av v},Rep S.cv s.heap (DN N V) av v->Rep S.cv h' (DN N V) av v:=fun r=>r.ext e0 hD;have there:∀a o,s.heap.get? a=some o->∃o',h'.get? a=some o':=fun a o e=>by
  by_cases q:a=C
  ·clear hC nO U hb B;subst q;exact ⟨y.choose,y.choose_spec.1⟩
  ·exact ⟨o,B a o q e⟩
 obtain ⟨mc,cm,n,cc,ow,ap,cl,rr⟩:=hs.loc;have oC:∀a,Own env a->a≠C:=fun a q z=>nO (z▸q);refine ⟨⟨⟨fun a o e=>B a o (fun q=>?_) (hs.inv.keep a o e),hs.inv.gens,hs.inv.drawn,hs.inv.os,hs.inv.σg,hs.inv.σN,fun a q=>?_,fun a o e=>(hs.inv.rep a o e).ext e0 hD fun ob e'=>B a ob (fun z=>hs.inv.σN a (by unfold Dom;rw [e];simp) (z▸hC)) e'⟩,?_,?_,hs.pN,hs.new,hs.own,hs.gb⟩,
  Step.of_but (fun a o Z n e=>B a o n e) (fun Z h=>.inl h) there⟩
 ·clear hC nO hb y B oC;subst q;rw [hs.gb a U] at e;cases e
 ·refine X1pp (hs.inv.Nin a q) fun o e nf=>?_
  by_cases z:a=C
  ·rw [z];exact y
  ·exact ⟨o,B a o z e,nf⟩
 ·refine ⟨mc,cm,?_,fun z a hz=>?_,ow,ap,cl,fun z j av hj hm=>?_⟩
  ·refine X3pp n fun o es ep e d=>?_;exact ⟨o,es,ep,B _ _ (oC _ (.inl rfl)) e,d⟩
  ·refine X1pp (cc z a hz) fun o e d=>?_;exact ⟨o,B _ _ (oC _ (.inr ⟨z,hz⟩)) e,d⟩
  ·exact LocAt.map (rr z j av hj hm) (fun h2=>rep h2) (fun Z h1=>h1) (fun Z h1=>h1)
 ·have bC:∀{a o},b.2.heap.get? a=some o->a≠C:=fun e z=>by rw [z,U] at e;cases e
  have f:=hs.frm;exact ⟨⟨fun a o e d=>B a o (bC e) (f.ext.obj a o e d)⟩,fun a o e d g x=>by
   refine X1pp (f.frm a o e d g x) fun o' e' r=>?_;exact ⟨o',B a o' (bC e) e',r⟩,f.dom,fun a o e=>by
   refine X1p (f.there a o e) fun o' e'=>?_;exact ⟨o',B a o' (bC e) e'⟩⟩
theorem ItStep.step{W P O:Addr->Prop}{Ay:Store}{AH Aj:ae}(st:ItStep W s Aj)(new:∀a,W a->AH.heap.get? a=aa)(z:Step P O Ay AH V s):Step P O Ay AH V Aj :=
 z.over fun c e o=>st.keep c o fun z=>e.elim fun o e=>Ak (new c z) e
inductive CEnd(F:Fx S)(i:Nat)(m:Vars)(K:List AV->Store->Prop)(D:Addr)(Ay:Store)(AH s':ae):Prop
 | mk (V':Store)(Am:Vars)(ys:List AV)(vs:List Value)(n:Nat)(st:Step F.P F.O Ay AH V' s')(h:F.St Am V' s')(hm:∀j,j≠i->Am j=m j)(g:s'.heap.get? D=some (AB (aA vs) n))(rl:RepL S.cv s'.heap (F.D V') ys vs)(k:K ys V'):CEnd F i m K D Ay AH s'
inductive CInv(F:Fx S)(i:Nat)(elt:E)(cs:List E)(ok:Store->Store->Prop)(m:Vars)(K:List AV->Store->Prop)(items:List AV)(J:Nat->Store->ae->Prop)(D:Addr)(Ay:Store)(AH:ae)(n:Nat)(s':ae):Prop
 | mk (k:Nat) (Am:Vars) (V':Store) (ys:List AV) (vs:List Value) (nn:Nat) (hn:n+k=items.length+1) (hk:k<=items.length) (hv:vs.length<=k) (st:Step F.P F.O Ay AH V' s') (h:F.St Am V' s') (hm:∀j,j≠i->Am j=m j) (hJ:J k V' s')
  (g:s'.heap.get? D=some (AB (aA vs) nn)) (rl:RepL S.cv s'.heap (F.D V') ys vs) (c:Fs F i elt cs ok m K (items.drop k) ys V'):CInv F i elt cs ok m K items J D Ay AH n s'
set_option tactic.hygienic true in
theorem Lu{I D:Addr}{items:List AV}{x:Str}{px:Pos}{W:Addr->Prop}{J:Nat->Store->ae->Prop}{ok:Store->Store->Prop}{i:Nat}{elt:E}{cs:List E}{pelt piter:ai}{pcs:List ai}{scope:Scope}{pos:Pos}{m₀:Vars}{K:List AV->Store->Prop}{Ay:Store}{AH:ae}
  (Wk:Walk F I items (.Name x px) W J ok) (hf:F.sc.lookup x≠some .free) (hx:IsV F.tb F.sc x i) (hlen:items.length<=big) (he:CE F.tb F.sc pelt elt) (hcs:CEs F.tb F.sc pcs cs)
  (new:∀a,W a->F.b.2.heap.get? a=aa) (hN:∀a,W a->¬F.N a) (hD:F.N D) (hDO:¬F.O D) (hDP:¬F.P D) (hDb:F.b.2.heap.get? D=aa) (hD0:AH.heap.get? D=aa)
  (new0:∀a,W a->AH.heap.get? a=aa) (hs:F.St m₀ V s) (st0:Step F.P F.O Ay AH V s) (hm0:∀j,j≠i->m₀ j=m j) (gD:s.heap.get? D=some (AB #[] 0)) (hJ:J 0 V s) (h:Fs F i elt cs ok m K items [] V) :
  codeAny (model S.prog S.w) F.A (.compLoop (.ListComp pelt [⟨.Name x px,piter,pcs,0⟩] scope pos) 0 (.ref I) (.ref D) F.env) (fun r s'=>match r with
   | .ok _=>CEnd F i m K D Ay AH s'
   | .error _=>False) s:=by
 have wD:¬W D:=fun q=>hN D q hD
 refine F3 (CInv F i elt cs ok m K items J D Ay AH) ?_ (items.length+1)
  ⟨0,m₀,V,[],[],0,rfl,cI _,ay _,st0,hs,hm0,hJ,gD,.nil,h⟩
 intro n Ac hR1;obtain ⟨k,Am,Aa,ys,vs,nn,hn,hk,hv,Ai,Ad,Dh,DM,g₁,T,hl⟩:=hR1;have its:=Wk.its k Aa Ac DM;have dom_D:∀{V':Store}{s':ae}{m':Vars},F.St m' V' s'->¬(Dom V' D\/F.O D\/F.P D):=fun q d=>d.elim (fun d=>q.inv.σN D d hD) fun d=>d.elim hDO hDP
 by_cases u:k<items.length
 ·obtain ⟨y,hy⟩:∃y,items[k]?=some y:=⟨_,aE u⟩
  have hd:items.drop k=y::items.drop (k+1):=by
   rw [List.drop_eq_getElem_cons u];rw [aE u] at hy
   cases hy;rfl
  rw [hd] at hl;refine Wk.next k y Am Aa Ac _ _ _ hy Ad DM fun v Aj B rv HM=>?_;have Ah:F.St Am Aa Aj:=Ad.it its new hN B;have g₂:=B.keep D _ wD g₁;have rl₂:=T.it its B.keep;refine wpAny_assign_Name (Cm hf hx Ah rv fun BB A0 AI=>?_);rw [set_over Dh] at AI;refine (TestT.run hl hcs AI).out ?_
  rintro b Cd Bw BM Bx q
  have U:=A0.trans BM;have g₄:=U.ext.obj D _ g₂ (dom_D Ah);have rl₄:=rl₂.st U Bx;have st':=(B.step new0 Ai).trans U
  cases b with
  | false =>
   simp only [bT,if_false] at q ⊢;exact ⟨n - 1,by exact lin [n - 1,n] [] (.c V0 V1) [.d (.A V0 K1) V1] rfl (an (lin [n,k,items.length] [] (.b K1 V0) [.D (-1) (.A V0 V1) (.A V2 K1),.c V1 V2] rfl hn u)),k+1,_,Cd,ys,vs,nn,by exact aw (lin [n,k,items.length,n - 1] [] (.b (.A V3 (.A V1 K1)) (.A V2 K1)) [.d (.A V0 V1) (.A V2 K1),.d (.A V3 K1) V0] rfl hn (an (lin [n,k,items.length] [] (.b K1 V0) [.D (-1) (.A V0 V1) (.A V2 K1),.c V1 V2] rfl hn u))) (lin [n,k,items.length,n - 1] [] (.b (.A V2 K1) (.A V3 (.A V1 K1))) [.D (-1) (.A V0 V1) (.A V2 K1),.b V0 (.A K1 V3)] rfl hn (aq.mp (ay ((n) - (1))))),u,by exact lin [vs.length,k] [] (.b V0 (.A V1 K1)) [.b V0 V1] rfl hv,st',Bx,fun j hj=>by unfold Vars.set;rw [if_neg hj],Wk.stays _ _ _ _ _ _ _ F.O Ah.own hN HM Ah U Bx q.1,g₄,rl₄,q.2⟩
  | true =>
   simp only [if_true] at q ⊢;refine (q _ he Bw Bx).out ?_;intro v5 Ei It Ej GS hR1;obtain ⟨e5,r5,hok,hrest⟩:=hR1;have g₅:=Ej.ext.obj D _ g₄ (dom_D Bx);have rl₅:=rl₄.st Ej GS;refine wpAny_list_append_plain (items:=vs.toArray) ⟨nn,g₅⟩ (fun h' pl sb=>?_) (by rw [aG];exact A6 (by exact lin [items.length,big,vs.length,k] [] (.b V2 V1) [.b V0 V1,.b V2 V3,.c V3 V0] rfl hlen hv u))
   refine X1p pl fun n6 g₆=>?_;obtain ⟨h₆,Y⟩:=GS.turnN hD hDO hDb sb.extBut ⟨_,g₆,fun vs z=>by cases z⟩
   have ee:vs.toArray.push v5=(vs++[v5]).toArray:=by simp
   rw [ee] at g₆;have stN:Step F.P F.N Aa Aj Ei { It with heap:=h' }:=((U.trans Ej).mono Ah.own).trans (Y.mono fun a q=>q▸hD)
   have rl₆:RepL S.cv h' (F.D Ei) (ys++[e5]) (vs++[v5]):=(RepL.snoc rl₅ r5).step Y (fun a q=>q▸hD) GS.pN;have stD:Step F.P F.O Ay AH Ei { It with heap:=h' }:=by
    exact (st'.trans Ej).over fun a e o=>sb.extBut a o fun q=>e.elim fun o e=>by rw [q] at e;exact Ak hD0 e
   exact ⟨n - 1,by exact lin [n - 1,n] [] (.c V0 V1) [.d (.A V0 K1) V1] rfl (an (lin [n,k,items.length] [] (.b K1 V0) [.D (-1) (.A V0 V1) (.A V2 K1),.c V1 V2] rfl hn u)),k+1,_,Ei,ys++[e5],vs++[v5],n6,by exact aw (lin [n,k,items.length,n - 1] [] (.b (.A V3 (.A V1 K1)) (.A V2 K1)) [.d (.A V0 V1) (.A V2 K1),.d (.A V3 K1) V0] rfl hn (an (lin [n,k,items.length] [] (.b K1 V0) [.D (-1) (.A V0 V1) (.A V2 K1),.c V1 V2] rfl hn u))) (lin [n,k,items.length,n - 1] [] (.b (.A V2 K1) (.A V3 (.A V1 K1))) [.D (-1) (.A V0 V1) (.A V2 K1),.b V0 (.A K1 V3)] rfl hn (aq.mp (ay ((n) - (1))))),u,by simp;exact lin [vs.length,k] [] (.b V0 V1) [.b V0 V1] rfl hv,stD,h₆,fun j hj=>by unfold Vars.set;rw [if_neg hj],Wk.stays _ _ _ _ _ _ _ F.N (fun Z q=>q) hN HM Ah stN h₆ hok,g₆,rl₆,hrest⟩
 ·have hk':k=items.length:=by exact aw (lin [k,items.length] [] (.b V0 V1) [.b V0 V1] rfl hk) (lin [k,items.length] [] (.b V1 V0) [.j V0 V1] rfl u)
  clear hn hk hv u;subst hk';rw [List.drop_length] at hl;refine Wk.done Am Aa Ac _ _ Ad DM fun Aj B=>?_;exact ⟨Aa,Am,ys,vs,nn,B.step new0 Ai,Ad.it its new hN B,Dh,B.keep D _ wD g₁,T.it its B.keep,hl⟩
theorem CompOk.isV(c:CompOk F scope x i){D C:Addr}:(Bn c D C).sc.lookup x≠some .free/\IsV (Bn c D C).tb (Bn c D C).sc x i:=by
 have e:(Bn c D C).sc.lookup x=scope.names.lookup x:=by
  show (relabel scope F.env).names.lookup x=_;rw [BI]
  rcases c.var with q | q<;>rw [BA q,q]<;>rfl
 rw [e];refine ⟨?_,c.ok,?_,c.ix⟩
 ·rcases c.var with q | q<;>rw [q]<;>simp
 ·rw [e];exact c.var.imp id .inl
theorem compT{u T:ai}{pcs:List ai}{px pos pos':Pos}{B elt:E}{cs:List E}{X:Value->ae->Prop}{K:List AV->Store->Prop}{use:Option (Value->Sem Unit)}{Q:Value->ae->Prop}(c:CompOk F scope x i)
  (hsrc:CE F.tb F.sc u B) (hcs:CEs F.tb (relab F.sc scope.names) pcs cs) (helt:CE F.tb (relab F.sc scope.names) T elt) (hns:Bb u=true)
  (h:SrcT F m V (.v i) B (fun items ok Aa=>items.length<=big/\∀F':Fx S,F'.tb=F.tb->F'.k=F.k->Fs F' i elt cs ok m K items [] Aa) X) (hs:F.St m V s)
  (fin:∀(D C:Addr) σb sb Aa Ac Am ys vs n,Step F.P F.O V s σb sb->F.St m σb sb->sb.heap.get? D=aa->sb.heap.get? C=aa->D≠C->B3 F scope sb C->Step F.P (Bn c D C).O σb sb Aa Ac->(Bn c D C).St Am Aa Ac->(∀j,j≠i->Am j=m j) ->
   Ac.heap.get? D=some (AB (aA vs) n)->RepL S.cv Ac.heap ((Bn c D C).D Aa) ys vs->K ys Aa->compPost (model S.prog S.w) F.A X use Q (.ref D) C (.ok .next) Ac) :
  wpAny (model S.prog S.w) F.A (comprehension (.ListComp T [⟨.Name x px,u,pcs,0⟩] scope pos) scope F.env pos' (newList []) false (eval u F.env) use) Q X s:=by
 refine wpAny_comprehension_free (use:=use) rfl (FT hns) c.closure c.kind (fun q hq hl=>by have:=(c.names q hq).2;rw [hl] at this;exact this) ?_
 refine aV (h u (.Name x px) hsrc trivial s hs) (fun xv Ac Ad=>aV Ad ?_ fun Z Z e=>e) fun Z Z e=>e;intro it Aj hR1;obtain ⟨I,items,W,J,ok,Ab,sm,rfl,wk,stm,hm,st,Ah,nw,mv,hlen,Y⟩:=hR1;have d:=comp_in c Ah;generalize hDD:Aj.heap.objs.size=D at d;dsimp only at d;refine bY ?_ (by size_fits)
 have hC:(Aj.heap.push { cls:=.type "list",data:=.seq ([]:List Value).toArray }).objs.size=D+1:=by rw [<- hDD];exact cG ..
 refine GG ?_;dsimp only;rw [hC,hDD]
 show codeAny (model S.prog S.w) F.A (.compStart (.ListComp T [⟨.Name x px,u,pcs,0⟩] scope pos) 0 (.ref I) (.ref D) (EN F scope (D+1))) (compPost (model S.prog S.w) F.A X use Q (.ref D) (D+1))
  { Aj with heap:=fB ((Aj.heap.push (AB #[] 0)).push { cls:=.type "dict",data:=.dict #[] }) scope.names }
 obtain ⟨Bx,BM,g₄,cn,kp,hDN,hDO⟩:=d;have its:=(wk F).its 0 Ab Aj mv.here;have fD:Aj.heap.get? D=aa:=by rw [<- hDD];exact Ax _
 have fC:Aj.heap.get? (D+1)=aa:=by
  cases q:Aj.heap.get? (D+1) with
  | none=>rfl
  | some o=>exact absurd (bh q) (by rw [hDD];exact cO.mpr (fO _))
 have sD:=st.new fD;have sC:=st.new fC;have cn0:B3 F scope sm (D+1):=⟨fun a q=>(cn.out a q).imp id st.new⟩;have Wb:∀a,W a->F.b.2.heap.get? a=aa:=fun a q=>hm.frm.new (nw a q);have WN:∀a,W a->¬(Bn c D (D+1)).N a:=by
  rintro a q (z | z | z)
  ·refine X1pp (hm.inv.Nin a z) fun o e nf=>?_;rw [nw a q] at e;cases e
  ·refine X1pp (its a q) fun o e Z=>?_;rw [z,fD] at e;cases e
  ·rcases cn.out a z with ⟨y,_,hy⟩ | z
   ·exact its.notOwn Ah q (.inr ⟨y,hy⟩)
   ·refine X1pp (its a q) fun o e Z=>?_;rw [z] at e;cases e
 have Db:F.b.2.heap.get? D=aa:=hm.frm.new sD;have hJ:=mv (Bn c D (D+1)) Ab { Aj with heap:=fB ((Aj.heap.push (AB #[] 0)).push { cls:=.type "dict",data:=.dict #[] }) scope.names } kp hDN fun Z Z e=>e
 have scn:(Bn c D (D+1)).sc=relab F.sc scope.names:=BI F scope;have st0:Step F.P (Bn c D (D+1)).O Ab sm Ab { Aj with heap:=fB ((Aj.heap.push (AB #[] 0)).push { cls:=.type "dict",data:=.dict #[] }) scope.names }:=(st.trans BM).any
 have U:codeAny (model S.prog S.w) F.A (.compLoop (.ListComp T [⟨.Name x px,u,pcs,0⟩] scope pos) 0 (.ref I) (.ref D) (EN F scope (D+1))) (compPost (model S.prog S.w) F.A X use Q (.ref D) (D+1))
   { Aj with heap:=fB ((Aj.heap.push (AB #[] 0)).push { cls:=.type "dict",data:=.dict #[] }) scope.names }:=by
  refine dF (Lu (F:=Bn c D (D+1)) (m:=m) (Ay:=Ab) (AH:=sm) (wk _) c.isV.1 c.isV.2 hlen (by rw [scn];exact helt) (by rw [scn];exact hcs) Wb WN (.inr (.inl rfl)) hDO (fun q=>by refine X1pp (hm.inv.Nin D (hm.pN D q)) fun o e Z=>?_;rw [sD] at e;cases e) Db sD nw Bx st0 (fun j hj=>if_neg hj) g₄ hJ (Y _ rfl rfl)) fun r s' hr=>?_
  cases r with
  | error e=>exact hr.elim
  | ok f =>
   obtain ⟨V',Am,ys,vs,n,st',h',Dh,gD',rl',hK⟩:=hr
   have:=fin D (D+1) Ab sm V' s' Am ys vs n stm hm sD sC (bK (ej D)) cn0 st' h' Dh gD' rl' hK
   cases use<;>exact this
 exact codeAny_compStart_list U ((wk (Bn c D (D+1))).self 0 Ab _ _ _ hJ U)
theorem ET.comp{B O:E}{cs:List E}{X:Value->ae->Prop}{Q:AV->Store->Prop}
  (h:SrcT F m V (.v i) B (fun items ok Aa=>items.length<=big/\∀F':Fx S,F'.tb=F.tb->F'.k=F.k->Fs F' i O cs ok m (fun ys Ab=>Fresh Ab (.list ys) (.list ys) Q) items [] Aa) X):ET F m V (.comp O i B cs) Q X:=by
 intro pe hc s hs;refine X6p hc.inv fun Z Z Z Z Z Z Z0=>?_;refine X1lpppppp pe Z0 fun Z U u hns hok T Z1=>?_;refine B0 Z1 fun z hix hcs y=>?_;have c:CompOk F _ _ i:=⟨U,u,hok,hix,T⟩;show wpAny _ _ (eval _ _) _ _ _;rw [eval_ListComp];refine compT (K:=fun ys Ab=>Fresh Ab (.list ys) (.list ys) Q) c z hcs y hns h hs ?_;intro D C σb sb Aa Ac Am ys vs n Y hb hD hC hDC cn st Ad Dh gD rl hK;obtain ⟨mc,_,ns,_⟩:=Ad.loc;refine ⟨mc,ns,fun h' sb'=>?_⟩;obtain ⟨V',d,h2,av,ra,q⟩:=H7 c cn hb hD hC hDC st Ad Dh sb' gD rl (Np:=F.N) (fun b q=>.inl q) (fun b q=>q) (fun q=>by refine X1pp (hb.inv.Nin C q) fun o e nf=>?_;rw [hC] at e;cases e) hK
 exact ⟨V',Y.trans d,h2,av,ra,q⟩
theorem ST.assignComp{j:Nat}{src elt:E}{cs:List E}{X:Value->ae->Prop}{K:Fl->Vars->Store->Prop}
  (h:SrcT F m V (.v i) src (fun items ok Aa=>items.length<=big/\∀F':Fx S,F'.tb=F.tb->F'.k=F.k->Fs F' i elt cs ok m (fun ys Ab=>Fresh Ab (.list ys) (.list ys) (fun a Ap=>K .next (m.set j a) Ap)) items [] Aa) X):ST F m V (.assign (.v j) (.comp elt i src cs)) K X:=by
 intro ps hc s hs;refine X3lpp ps hc.inv fun Z Z Z hp he=>?_;refine X2ppp hp.inv fun y py Z0 hf hx=>?_;subst Z0;have ev:=ET.comp (F:=F) (X:=X) h;refine X6p he.inv fun pelt x xp u pcs scope Z2=>?_;refine X1ppppppp Z2 fun p Z1 U hvar hns hok T Z3=>?_;refine B0 Z3 fun hsrc hix hcs helt=>?_;subst Z1
 ···
    have c:CompOk F scope x i:=⟨U,hvar,hok,hix,T⟩;show wpAny _ _ (exec (.Assign [.Name y py] _ _) _) _ _ _
    cases hsw:(F.env.blockKind == .function && F.env.kindOf y == some .local && py.line == p.line && !(scope.names.any fun (n,k)=>n == y && (k == .local || k == .cell))) with
    | false =>
     refine wpAny_Assign_Name ((ev _ he s hs).out ?_) (by unfold swapsWith;exact congrArg pure hsw)
     intro v Aa Ac Ai Ad B;obtain ⟨a,ra,q⟩:=B;exact Cm hf hx Ad ra fun Aj An Ah=>⟨.next,_,Aa,Ai.trans An,Ah,trivial,q⟩
    | true =>
     rw [exec_Assign_Name_used _ _ _ _ (by unfold swapsWith;exact congrArg pure hsw)]
     refine ac (dn (ac ?_));show wpAny _ _ (do let _ <- comprehension (.ListComp pelt [⟨.Name x xp,u,pcs,0⟩] scope p) scope F.env _ (newList []) false (eval u F.env) (some (PySem.assign (.Name y py) F.env))) _ _ s
     refine ac (aV (compT (use:=some (PySem.assign (.Name y py) F.env)) (Q:=fun Z s'=>∃V',Step F.P F.O V s V' s'/\∃a,F.St (m.set j a) V' s'/\K .next (m.set j a) V') (K:=fun ys Ab=>Fresh Ab (.list ys) (.list ys) (fun a Ap=>K .next (m.set j a) Ap)) c hsrc hcs helt hns h hs ?_) ?_ fun Z Z e=>e)
     ·intro D C σb sb Aa Ac Am ys vs n stb hb hD hC hDC cn st Ad Dh gD rl hK
      let Np:Addr->Prop:=fun a=>F.N a\/a=C
      have nFC:¬F.N C:=fun q=>by refine X1pp (hb.inv.Nin C q) fun o e nf=>?_;rw [hC] at e;cases e
      obtain ⟨mc,_,ns,_⟩:=Ad.loc;have nsC:Ac.heap.Ns C mc:=ns;obtain ⟨V',Y,h2,av,ra,q⟩:=H7 c cn hb hD hC hDC st Ad Dh (h':=Ac.heap) (Heap.SameBut.refl ..) gD rl (Np:=Np) (fun b q=>q) (fun b q=>.inl q) (fun Z=>by refine X3ppp nsC fun o Z Z e dd Z=>?_;exact ⟨o,e,fun vs z=>by rw [dd] at z;cases z⟩) hK
      let Fp:Fx S:=⟨F.A,F.tb,F.env,F.b,Np,F.k,F.room.wide (fun Z q=>.inl q),F.fk,F.fg,F.fb,F.fc⟩
      have h2':Fp.St m V' Ac:=h2;show wpAny (model S.prog S.w) F.A (PySem.assign (.Name y py) F.env (.ref D)) _ _ Ac;refine wpAny_assign_Name (Cm (F:=Fp) hf hx h2' ra fun Aj An Ah=>?_);have nOC:¬F.O C:=fun q=>nFC (hb.own C q);have nDC:¬Dom V' C:=fun d=>h2'.inv.σN C d (.inr rfl);refine ⟨mc,(by refine X3ppp nsC fun o es ep e dd r=>?_;refine X1pppp (An.there' e nDC nOC) fun o' e' Z d' Z=>?_;exact ⟨o',es,ep,e',d'.trans dd,r⟩),fun h' sb'=>?_⟩
      refine Ao (St.letGo (N:=F.N) Ah (.inr rfl) (fun a q=>.inl q) hs.pN nFC hs.own (hb.frm.new hC) sb') fun h3 Z=>?_;exact ⟨V',((stb.trans Y).trans An).over (fun a e o=>sb'.extBut a o fun q=>e.elim fun o e=>by rw [q] at e;exact Ak (stb.new hC) e),av,h3,q⟩
     ·intro _ s' B
      refine X1pp B fun V' Y Z4=>?_;refine X1pp Z4 fun a h' hk=>?_;exact ag (ag ⟨.next,_,V',Y,h',trivial,hk⟩)
end
end
section
variable {S:Sta}
inductive Ty where
 | none
 | bool
 | int
 | str
 | tup
 | list
 | dict
noncomputable def Ty.name:Ty->String
 | .none => "NoneType"
 | .bool => "bool"
 | .int => "int"
 | .str => "str"
 | .tup => "tuple"
 | .list => "list"
 | .dict => "dict"
noncomputable def tyA(V:Store):AV->Option Ty
 | .none=>some .none
 | .bool _=>some .bool
 | .int _=>some .int
 | .str _=>some .str
 | .tup _=>some .tup
 | .list _=>some .list
 | .dict _=>some .dict
 | .loc a _=>match V a with
  | some (.list _)=>some .list
  | some (.dict _)=>some .dict
  | _=>aa
 | _=>aa
noncomputable def Ty.n:Ty->Nat
 | .none=>0
 | .bool=>1
 | .int=>2
 | .str=>3
 | .tup=>4
 | .list=>5
 | .dict=>6
noncomputable def isT(t u:Ty):Bool:=cw t.n u.n || (cw t.n 1 && cw u.n 2)
section
variable {F:Fx S}{m:Vars}{V:Store}{s:ae}{X:Value->ae->Prop}{Q:AV->Store->Prop}
noncomputable def isP(t u:Ty):Bool:=match t with
 | .int=>(match u with
  | .int=>true
  | .bool=>true
  | _=>false)
 | .str=>(match u with
  | .str=>true
  | _=>false)
 | .tup=>(match u with
  | .tup=>true
  | _=>false)
 | .list=>(match u with
  | .list=>true
  | _=>false)
 | .dict=>(match u with
  | .dict=>true
  | _=>false)
 | _=>false
theorem rep_ty{a:AV}{v:Value}{t:Ty}(r:Rep S.cv s.heap (F.D V) a v)(hs:F.St m V s)(h:tyA V a=some t):match t with
  | .int=>∃n u,v=.int n u
  | .str=>∃x u,v=.str x u
  | .tup=>∃ad o,v=.ref ad/\s.heap.get? ad=some o/\o.cls=.type "tuple"
  | .list=>∃ad o,v=.ref ad/\s.heap.get? ad=some o/\o.cls=.type "list"
  | .dict=>∃ad o,v=.ref ad/\s.heap.get? ad=some o/\o.cls=.type "dict"
  | _=>True:=by
 cases a with
 | int n=>obtain rfl:=ar h;exact ⟨n,r.inv⟩
 | str x=>obtain rfl:=ar h;exact ⟨x,r.inv⟩
 | tup l=>obtain rfl:=ar h;obtain ⟨a,b,c,e,f,_⟩:=r.inv;exact ⟨a,_,e,f,rfl⟩
 | list l=>obtain rfl:=ar h;obtain ⟨a,b,c,e,f,_⟩:=r.inv;exact ⟨a,_,e,f,rfl⟩
 | none=>obtain rfl:=ar h;trivial
 | bool b=>obtain rfl:=ar h;trivial
 | dict l=>obtain rfl:=ar h;obtain ⟨a,b,c,e,f,_⟩:=r.inv;exact ⟨a,_,e,f,rfl⟩
 | loc ad ii =>
  unfold tyA at h;dsimp only at h
  cases e:V ad with
  | none=>rw [e] at h;cases h
  | some o =>
   rw [e] at h
   cases o with
   | list l'=>obtain rfl:=ar h;obtain ⟨vs,n,g,q⟩:=(hs.inv.rep ad _ e).inv;exact ⟨ad,_,r.inv,g,rfl⟩
   | dict l'=>obtain rfl:=ar h;refine X2pp ((hs.inv.rep ad _ e).inv) fun vs n g Z=>?_;exact ⟨ad,_,r.inv,g,rfl⟩
   | _=>exact (Ak rfl h).elim
 | _=>exact (Ak rfl h).elim
theorem CT.isinst{a:AV}{j:Nat}{t u:Ty}(hp:isP t u=true)(ha:tyA V a=some t)(hj:S.cv j=.type u.name)(hu:u≠.none)(h:Q (.bool (isT t u)) V):CT F m V (.builtin "isinstance") [a,.cls j] Q X:=by
 intro U s hs r;obtain ⟨v,c,rfl,ra,rc⟩:=r.two;have hc:c=.type u.name:=rc.inv.trans hj;clear r rc;subst hc;have q:=rep_ty ra hs ha
 cases t with
 | int =>
  obtain ⟨n,k,rfl⟩:=q
  cases u with
  | bool=>exact PySem.IsiPair.int_bool (Et _ hs (.bool _) h)
  | int=>exact PySem.IsiPair.int_int (now hs (.bool _) h)
  | _=>exact (aH hp).elim
 | str =>
  obtain ⟨x,k,rfl⟩:=q
  cases u with
  | str=>exact PySem.IsiPair.str_str (now hs (.bool _) h)
  | _=>exact (aH hp).elim
 | tup =>
  obtain ⟨ad,o,rfl,e,hc⟩:=q
  cases u with
  | tup=>exact PySem.IsiPair.tuple_tuple e hc (now hs (.bool _) h)
  | _=>exact (aH hp).elim
 | list =>
  obtain ⟨ad,o,rfl,e,hc⟩:=q
  cases u with
  | list=>exact PySem.IsiPair.list_list e hc (now hs (.bool _) h)
  | _=>exact (aH hp).elim
 | dict =>
  obtain ⟨ad,o,rfl,e,hc⟩:=q
  cases u with
  | dict=>exact PySem.IsiPair.dict_dict e hc (now hs (.bool _) h)
  | _=>exact (aH hp).elim
 | _=>exact (aH hp).elim
theorem ET.cls{j:Nat}(hg:Glob S j (S.cv j))(h:Q (.cls j) V):ET F m V (.g j) Q X:=by
 intro pe hc s hs;refine X2lp pe hc.inv fun Z Z hx=>?_;exact Ew hx hg hs (now hs (.cls j) h)
theorem CT.lenTup{l:List AV}(hz:l.length<=big)(h:Q (.int l.length) V):CT F m V (.builtin "len") [.tup l] Q X:=by
 intro U s hs r;refine X1lp U r.one fun v ra=>?_
 ·refine X3lppp v ra.inv fun ad vs n e d rl=>?_
  have ht:IsTup s.heap ad vs.toArray:=⟨_,e,rfl,n,rfl⟩;refine len_tuple ht (by rw [aG,rl.length];exact gr.mp (Gc hz)) ?_
  rw [aG,rl.length];exact Et _ hs (.int _ _) h
theorem CT.lenDict{a:AV}{l:List (Af×AV)}(ha:dd V a=some l)(hz:l.length<=big)(h:Q (.int l.length) V):CT F m V (.builtin "len") [a] Q X:=by
 intro U s hs r;refine X1lp U r.one fun v ra=>?_;refine X3lppp v (ra.dctE hs ha) fun ad es n e sm rd=>?_;have e':s.heap.get? ad=some (AP es.toArray n):=e;refine call_len_slot (n:=l.length) e.typeIs PySem.F.slot_dict_len (fun Q' hq=>?_) (by exact lin [l.length] [] (.l (.c V0) K0) [] rfl) (Gc hz) (Et _ hs (.int _ _) h)
 refine cJ PySem.F.slot_dict_len (s:=s) ⟨_,e',rfl⟩ PySem.F.entry_dict_len ?_ (PySem.F.args_dict_len_1 _);show wpAny _ _ (dictSize ad >>= _) _ _ s;unfold dictSize;refine ac (ac (bG e' rfl (ag ?_)));show wpAny _ _ (Builtin.Dict.pendingCount ad >>= _) _ _ s;refine ac (wpAny_pendingCount_other sm ?_);refine ac (wpAny_mkInt (ag ⟨_,rfl,?_⟩));have hl:es.toArray.size=l.length:=by rw [aG,rd.length]
 rw [hl,Nat.add_zero];exact hq
theorem CT.max2(hq:S.hx=aa){a b:Int}(h:Q (.int (if b > a then b else a)) V):CT F m V (.builtin "max") [.int a,.int b] Q X:=by
 intro U s hs r;refine X2lpp U r.two fun v u ra rb=>?_;refine X1l v ra.inv fun Z=>?_;obtain ⟨_,rfl⟩:=rb.inv;refine max_two_ints (F.room.quiet hq) fun h' tk k=>?_;refine Ao (hs.grow k tk) fun h1 st=>?_
 by_cases c:b > a
 ·rw [if_pos c] at h ⊢;exact ⟨V,st.any,h1,_,.int _ _,h⟩
 ·rw [if_neg c] at h ⊢;exact ⟨V,st.any,h1,_,.int _ _,h⟩
theorem CT.min2(hq:S.hx=aa){a b:Int}(h:Q (.int (if b<a then b else a)) V):CT F m V (.builtin "min") [.int a,.int b] Q X:=by
 intro U s hs r;refine X2lpp U r.two fun v u ra rb=>?_;refine X1l v ra.inv fun Z=>?_;obtain ⟨_,rfl⟩:=rb.inv;refine min_two_ints (F.room.quiet hq) fun h' tk k=>?_;refine Ao (hs.grow k tk) fun h1 st=>?_
 by_cases c:b<a
 ·rw [if_pos c] at h ⊢;exact ⟨V,st.any,h1,_,.int _ _,h⟩
 ·rw [if_neg c] at h ⊢;exact ⟨V,st.any,h1,_,.int _ _,h⟩
theorem CT.listList{a:AV}{l:List AV}(ha:dl V a=some l)(hz:l.length<=big)(h:Fresh V (.list l) (.list l) Q):CT F m V (.type "list") [a] Q X:=by
 intro U s hs r;refine X1lp U r.one fun v ra=>?_;obtain ⟨ad,vs,n,rfl,e,rl⟩:=ra.lst hs.inv ha;refine call_list_seq ad (T := "list") (.inl rfl) e rfl rfl (fun h' c' k e'=>BD (tk:=s.toks) hs k (Ax _) e' rl h) (by rw [aG,rl.length];exact A6 hz)
theorem CT.listTup{l:List AV}(hz:l.length<=big)(h:Fresh V (.list l) (.list l) Q):CT F m V (.type "list") [.tup l] Q X:=by
 intro U s hs r;refine X1lp U r.one fun v ra=>?_
 ·refine X3lppp v ra.inv fun ad vs n e d rl=>?_
  exact call_list_seq ad (T := "tuple") (.inr rfl) e rfl rfl (fun h' c' k e'=>BD (tk:=s.toks) hs k (Ax _) e' rl h) (by rw [aG,rl.length];exact A6 hz)
noncomputable def IF(V:Store)(a:AV):Option (List dX):=match BP V a with
 | some d=>(match d with
  | .list xs=>some xs
  | .tuple xs=>some xs
  | _=>aa)
 | aa=>aa
theorem FB{V:Store}{a:AV}{xs:List dX}(h:IF V a=some xs):BP V a=some (.list xs)\/BP V a=some (.tuple xs):=by
 unfold IF at h
 cases e:BP V a with
 | none=>rw [e] at h;cases h
 | some d =>
  rw [e] at h
  cases d with
  | list ys=>cases h;exact .inl rfl
  | tuple ys=>cases h;exact .inr rfl
  | _=>cases h
theorem KT.inSeq{a b:AV}{d:dX}{xs:List dX}{Q:Bool->Store->Prop}(ha:BP V a=some d)(hb:IF V b=some xs)(sx:ct xs=true)(sd:d.canLay0=true)(z:d.depth<=100)(h:Q (xs.any fun y=>eN y d) V):KT F m V .In a b Q X:=by
 intro va vb s hs ra rb;refine X1p (ra.readsS hs.inv ha) fun as r1=>?_;have hu:F.A.units+1+min (ce xs) d.depth<cLine:=by have:=F.room.un;unfold cLine;exact lin [d.depth,F.A.units,F.k,min (ce xs) d.depth] [] (.c (.A (.A V1 K1) V3) Eh) [.b V0 Eb,.c (.A V1 (.M 20 V2)) BG,.b V3 V0] rfl z this (Nat.min_le_right (ce xs) d.depth)
 rcases FB hb with e | e
 ·refine X1p (rb.readsS hs.inv e) fun bs r2=>?_
  exact PySem.SeqAt.in_list_reads r2 r1 sx sd hu ⟨V,Step.refl _ _ _ _,hs,_,rfl,h⟩
 ·refine X1p (rb.readsS hs.inv e) fun bs r2=>?_
  exact PySem.SeqAt.in_tuple_reads r2 r1 sx sd hu ⟨V,Step.refl _ _ _ _,hs,_,rfl,h⟩
theorem KT.notInSeq{a b:AV}{d:dX}{xs:List dX}{Q:Bool->Store->Prop}(ha:BP V a=some d)(hb:IF V b=some xs)(sx:ct xs=true)(sd:d.canLay0=true)(z:d.depth<=100)(h:Q (!xs.any fun y=>eN y d) V):KT F m V .NotIn a b Q X:=by
 intro va vb s hs ra rb;refine X1p (ra.readsS hs.inv ha) fun as r1=>?_;have hu:F.A.units+1+min (ce xs) d.depth<cLine:=by have:=F.room.un;unfold cLine;exact lin [d.depth,F.A.units,F.k,min (ce xs) d.depth] [] (.c (.A (.A V1 K1) V3) Eh) [.b V0 Eb,.c (.A V1 (.M 20 V2)) BG,.b V3 V0] rfl z this (Nat.min_le_right (ce xs) d.depth)
 rcases FB hb with e | e
 ·refine X1p (rb.readsS hs.inv e) fun bs r2=>?_
  exact PySem.SeqAt.notIn_list_reads r2 r1 sx sd hu ⟨V,Step.refl _ _ _ _,hs,_,rfl,h⟩
 ·refine X1p (rb.readsS hs.inv e) fun bs r2=>?_
  exact PySem.SeqAt.notIn_tuple_reads r2 r1 sx sd hu ⟨V,Step.refl _ _ _ _,hs,_,rfl,h⟩
theorem KT.inStr{x y:Str}{Q:Bool->Store->Prop}(h:Q (eu x y) V):KT F m V .In (.str y) (.str x) Q X:=by
 intro va vb s hs ra rb;refine X1l va ra.inv fun Z=>?_;obtain ⟨_,rfl⟩:=rb.inv;exact SB.contains ⟨V,Step.refl _ _ _ _,hs,_,rfl,h⟩
theorem KT.notInDict{k:Af}{b:AV}{l:List (Af×AV)}{Q:Bool->Store->Prop}(hb:dd V b=some l)(h:Q (!(Bq l k).isSome) V):KT F m V .NotIn (sp k) b Q X:=by
 intro va vb s hs ra rb;refine X4lpp va ra.spot fun t tx ty n e d=>?_;refine X3lpppp vb (rb.dct hs.inv hb) fun ad es n' e' sm nd rd=>?_;refine X1pp (RepD.xs (S:=S) rd) fun xs hx Z0=>?_;clear rd;subst Z0;have q:=hx.at_ k;refine wpAny_notIn_heap (Bz F) (Ed e) sm (Ee hx nd e') ⟨V,Step.toks _ _ _ _ _,hs.tok _,_,rfl,?_⟩
 have:(atKey xs (key k)).isSome=(Bq l k).isSome:=by
  revert q
  cases Bq l k<;>cases atKey xs (key k)<;>simp
 rw [this];exact h
end
end
section
variable {S:Sta}
structure Jj(nm:Str)(T id:String):Prop where
 pa:PlainAttrs T
 slot:Slot T nm id
 ty:typeOf (.builtin id)=pure (.type "method_descriptor")
section
variable {F:Fx S}{m:Vars}{V:Store}{s:ae}{X:Value->ae->Prop}{Q:AV->Store->Prop}{K:Fl->Vars->Store->Prop}
theorem rep_obj{a:AV}{v:Value}{t:Ty}(r:Rep S.cv s.heap (F.D V) a v)(hs:F.St m V s)(h:tyA V a=some t):s.TypeIs v t.name/\∀b,v=.ref b->∃ob,s.heap.get? b=some ob/\ob.dict=none:=by
 cases a with
 | none=>obtain rfl:=ar h;rw [show v=.none from r.inv];exact ⟨rfl,nofun⟩
 | bool b=>obtain rfl:=ar h;rw [show v=.bool b from r.inv];exact ⟨rfl,nofun⟩
 | int n=>obtain rfl:=ar h;refine X1l v r.inv fun u=>?_;exact ⟨rfl,nofun⟩
 | str x=>obtain rfl:=ar h;refine X1l v r.inv fun u=>?_;exact ⟨rfl,nofun⟩
 | tup l=>obtain rfl:=ar h;refine X3lpp v r.inv fun a b c f Z=>?_;exact ⟨⟨_,f,rfl⟩,fun Z q=>b4 q▸⟨_,f,rfl⟩⟩
 | list l=>obtain rfl:=ar h;refine X3lpp v r.inv fun a b c f Z=>?_;exact ⟨⟨_,f,rfl⟩,fun Z q=>b4 q▸⟨_,f,rfl⟩⟩
 | dict l=>obtain rfl:=ar h;refine X3lpp v r.inv fun a b c f Z=>?_;exact ⟨⟨_,f,rfl⟩,fun Z q=>b4 q▸⟨_,f,rfl⟩⟩
 | loc ad ii =>
  rw [show v=.ref ad from r.inv]
  unfold tyA at h;dsimp only at h
  cases e:V ad with
  | none=>rw [e] at h;cases h
  | some o =>
   rw [e] at h
   cases o with
   | list l'=>obtain rfl:=ar h;refine X2pp ((hs.inv.rep ad _ e).inv) fun vs n f q=>?_;exact ⟨⟨_,f,rfl⟩,fun Z q=>b4 q▸⟨_,f,rfl⟩⟩
   | dict l'=>obtain rfl:=ar h;refine X2pp ((hs.inv.rep ad _ e).inv) fun vs n f q=>?_;exact ⟨⟨_,f,rfl⟩,fun Z q=>b4 q▸⟨_,f,rfl⟩⟩
   | _=>exact (Ak rfl h).elim
 | _=>exact (Ak rfl h).elim
theorem LE{o:ai}{nm:Str}{env:Env}{x:Sem Value}(h:Ds o=true):attributeBase o nm env x=x:=by
 cases o with
 | Call f as ks p =>
  cases f with
  | Name i q =>
   cases as with
   | nil =>
    cases ks with
    | nil=>exact (aH h).elim
    | cons _ _=>rfl
   | cons _ _=>rfl
  | _=>rfl
 | _=>rfl
theorem H9{pos:Pos}{B:List ai}{es:List E}(hc:CEs F.tb F.sc B es)(hl:B.length<29):((backTo pos (e8 B F.env)).all (fun x=>!x.1) && (backToKw pos (keywordEach [] F.env)).all (fun x=>x.1.isSome)
   && decide (B.length+([]:List Keyword).length+(if ([]:List Keyword).isEmpty then 0 else 1)<30))=true:=by
 have h1:(backTo pos (e8 B F.env)).all (fun x=>!x.1)=true:=by
  have:=J6 (pos:=pos) hc
  rw [cA];intro x hx;rw [List.any_eq_false] at this
  have:=this x hx
  simpa using this
 have h2:(backToKw pos (keywordEach [] F.env)).all (fun x=>x.1.isSome)=true:=rfl;rw [h1,h2]
 simp
 exact lin [B.length] [] (.c V0 K30) [.c V0 K29] rfl hl
noncomputable def ArgsT(F:Fx S)(m:Vars)(V:Store)(es:List E)(P:List AV->Store->Prop)(X:Value->ae->Prop):Prop:=match es with
 | []=>P [] V
 | es=>EsT F m V es P X
theorem ET.meth{o:E}{n:Nat}{nm:Str}{T:List E}(hn:ixS AT nm=some n)
  (h:ET F m V o (fun a Aa=>∃t id,Jj nm (Ty.name t) id/\tyA Aa a=some t/\ArgsT F m Aa T (fun O Ab=>CT F m Ab (.builtin id) (a::O) Q X) X) X):ET F m V (.meth o n T) Q X:=by
 intro pe hc s hs;obtain ⟨po,a,ap,z,p,rfl,u,d,B,ho,hk,ha⟩:=hc.inv
 have:a=nm:=BK hk hn
 clear hn;subst this;refine wpAny_Call_method_lateS (LE u) (H9 ha B) (by simpa using d) ((h _ ho s hs).out ?_)
 intro ov Aa Ac Ai Ad hR1;obtain ⟨av,ra,t,id,hm,Y,y⟩:=hR1;refine Ao (rep_obj ra Ad Y) fun hT hd=>?_;refine ⟨t.name,id,hm.pa,hm.slot,hm.ty,hT,fun b e=>hd b e,?_⟩
 cases T with
 | nil =>
  obtain rfl:=ha.inv_nil;refine EF (Callable.builtin id) Ad ?_;exact (y [ov] Ac Ad (.cons ra .nil)).later Ai
 | cons e0 r0 =>
  refine X2lppp z ha.inv fun Z Z hn1 Z0 hr1=>?_;refine CQ (.cons hn1 Z0 hr1) (Callable.builtin id) y Ad ?_;intro U O Ab Aj An Ah rl q;exact (q (ov::U) Aj Ah (.cons (ra.st An Ah) rl)).later (Ai.trans An)
theorem Kq:ixS AT "append"=some 0:=by decide +kernel
theorem ix_pop:ixS AT "pop"=some 1:=by decide +kernel
theorem Ko:ixS AT "insert"=some 2:=by decide +kernel
theorem ix_clear:ixS AT "clear"=some 3:=by decide +kernel
theorem Kp:ixS AT "extend"=some 4:=by decide +kernel
theorem ix_get:ixS AT "get"=some 6:=by decide +kernel
theorem ix_join:ixS AT "join"=some 8:=by decide +kernel
theorem GL:Jj "append" (Ty.name .list) "list.append":=⟨c8,PySem.F.slot_list_append,PySem.F.type_list_append⟩
theorem meth_pop:Jj "pop" (Ty.name .list) "list.pop":=⟨c8,PySem.F.slot_list_pop,PySem.F.type_list_pop⟩
theorem Kd:Jj "join" (Ty.name .str) "str.join":=⟨PySem.F.plainAttrs_str,PySem.F.slot_str_join,PySem.F.type_str_join⟩
theorem Ct{ad:Addr}{l l':List AV}{h':Heap}{vs:List Value}{n:Nat}{s':ae}(hs:F.St m V s)(ho:V ad=some (.list l))(k:di ad s.heap h')(e:h'.get? ad=some (AB vs.toArray n))(r:RepL S.cv s.heap (F.D V) l' vs) :
  F.St m (V.set ad (.list l')) { s with heap:=h' }/\Step F.P F.O V s (V.set ad (.list l')) { s with heap:=h' }:=by
 have da:Dom V ad:=by unfold Dom;rw [ho];simp
 have e0:Ext (F.D V) s.heap h':=Ext.of_but fun b o d e=>k b o (fun q=>d (.inl (q▸da))) e;obtain ⟨h1,st⟩:=hs.upd (h':=h') da (fun c o ne e=>k c o ne e) s.toks (o:=.list l') (.list e (r.ext e0 fun b q=>.inl (q.imp (fun q=>(A1 q).elim (fun (q:b=ad)=>by rw [q];exact da) id) id)))
 exact ⟨h1,st.any⟩
theorem CT.append{ad:Addr}{ii:Nat}{l:List AV}{x:AV}(ho:V ad=some (.list l))(hz:l.length<=big)(h:Q .none (V.set ad (.list (l++[x])))):CT F m V (.builtin "list.append") [.loc ad ii,x] Q X:=by
 intro U s hs r;refine X2lpp U r.two fun v u ra rx=>?_;refine X3ppp (ra.lst hs.inv (BE ho)) fun y vs n Z0 e rl=>?_;subst Z0;obtain rfl:=(b4 ra.inv).symm;refine wpAny_list_append_plain (items:=vs.toArray) ⟨n,e⟩ (fun h' pl sb=>?_) (by rw [aG,rl.length];exact A6 hz)
 refine X1p pl fun n' e'=>?_;have ee:vs.toArray.push u=(vs++[u]).toArray:=by simp
 rw [ee] at e';refine Ao (Ct (s':=s) hs ho sb.extBut e' (rl.snoc rx)) fun h1 st=>?_;exact ⟨_,st,h1,_,.none,h⟩
theorem RepL.dropLast{cv:Nat->Value}{h:Heap}{D:Addr->Prop}{l:List AV}{vs:List Value}(r:RepL cv h D l vs):RepL cv h D l.dropLast vs.dropLast:=by
 rw [List.dropLast_eq_take,List.dropLast_eq_take,r.length];exact r.take _
theorem CT.pop{ad:Addr}{ii:Nat}{l:List AV}{x:AV}(ho:V ad=some (.list l))(hx:l.getLast?=some x)(hz:l.length<=big)(h:Q x (V.set ad (.list l.dropLast))):CT F m V (.builtin "list.pop") [.loc ad ii] Q X:=by
 intro U s hs r;refine X1lp U r.one fun v ra=>?_;refine X3ppp (ra.lst hs.inv (BE ho)) fun T vs n Z0 e rl=>?_;subst Z0;obtain rfl:=(b4 ra.inv).symm;have Y:l[l.length - 1]?=some x:=by rw [<- List.getLast?_eq_getElem?];exact hx
 refine X1pp (rl.get Y) fun u hu ru=>?_;have hy:vs.toArray[vs.toArray.size - 1]?=some u:=by rw [aG,rl.length];simpa using hu
 refine call_meets PySem.F.slot_list_pop ⟨_,e,rfl⟩ PySem.F.entry_list_pop (PySem.F.args_list_pop_1 _) (PySem.MeetsSeq.list_pop_last ad vs.toArray n u hy (by rw [aG,rl.length];exact A6 hz)) ⟨e,?_⟩
 have y:vs≠[]:=by rintro rfl;simp at hy
 have ee:vs.toArray.eraseIdxIfInBounds (vs.toArray.size - 1)=vs.dropLast.toArray:=by
  have z:vs.length - 1<vs.length:=by have:=List.length_pos_iff.mpr y;exact lin [vs.length - 1,vs.length] [] (.c V0 V1) [.d (.A V0 K1) V1] rfl (an (lin [vs.length] [] (.b K1 V0) [.c K0 V0] rfl this))
  simp only [aG,Array.eraseIdxIfInBounds,aG,z,dif_pos];simp [List.eraseIdx_length_sub_one]
 have hk:di ad s.heap (s.heap.update ad (bi fun xs=>xs.eraseIdxIfInBounds (vs.toArray.size - 1))):=(bq ..).extBut;have ms:bi (fun xs=>xs.eraseIdxIfInBounds (vs.toArray.size - 1)) (AB vs.toArray n)=AB vs.dropLast.toArray (if (vs.dropLast.toArray.size == vs.toArray.size) then n else n+1):=by
  simp only [bi,ee]
 have e':=bL (bi fun xs=>xs.eraseIdxIfInBounds (vs.toArray.size - 1)) e (by rw [ms];rfl)
 rw [ms] at e';refine Ao (Ct (s':=s) hs ho hk e' rl.dropLast) fun h1 st=>?_;exact ⟨_,st,h1,_,ru.st st h1,h⟩
noncomputable def Bo(l:List (Af×AV))(k:Af)(x:AV):List (Af×AV):=if (Bq l k).isSome then l.map (fun p=>if p.1=k then (k,x) else p) else l++[(k,x)]
theorem Dc{cv:Nat->Value}{h:Heap}{D:Addr->Prop}{l:List (Af×AV)}{xs:List (List Int×Addr×Value)}(r:XsOf cv h D l xs)(k:Af):(atKey xs (key k)).isSome=(Bq l k).isSome:=by
 have q:=r.at_ k
 revert q
 cases Bq l k<;>cases atKey xs (key k)<;>simp
theorem XsOf.put{cv:Nat->Value}{h:Heap}{D:Addr->Prop}{k:Af}{x:AV}{v:Value}(rv:Rep cv h D x v){l:List (Af×AV)}{xs:List (List Int×Addr×Value)}(r:XsOf cv h D l xs):XsOf cv h D (l.map (fun p=>if p.1=k then (k,x) else p)) (xs.map (putAt (key k) v)):=by
 induction r with
 | nil=>exact .nil
 | @cons k' x' l t _ _ _ v' xs e d r rs ih =>
  rw [bm,bm]
  by_cases q:k'=k
  ·subst q
   have:putAt (key k') v (key k',t,v')=(key k',t,v):=by simp [putAt]
   rw [this];simp only [if_true];exact .cons e d rv ih
  ·have q':¬key k'=key k:=fun z=>q (GP z)
   have:putAt (key k) v (key k',t,v')=(key k',t,v'):=by simp [putAt,q']
   rw [this];simp only [if_neg q];exact .cons e d r ih
theorem XsOf.snoc{cv:Nat->Value}{h:Heap}{D:Addr->Prop}{k:Af}{x:AV}{t:Addr}{tx ty:Tok}{n:Nat}{v:Value}(e:h.get? t=some (Br #[.int k.1 tx,.int k.2 ty] n))(d:¬D t)(rv:Rep cv h D x v) :
  ∀{l:List (Af×AV)}{xs:List (List Int×Addr×Value)},XsOf cv h D l xs->XsOf cv h D (l++[(k,x)]) (xs++[(key k,t,v)]):=by
 intro l xs r
 induction r with
 | nil=>exact .cons e d rv .nil
 | cons e' d' r' _ ih=>exact .cons e' d' r' ih
theorem Ll{l:List (Af×AV)}{k:Af}(h:Bq l k=aa):∀p∈l,p.1≠k:=by
 unfold Bq at h;rw [Option.map_eq_none_iff,List.find?_eq_none] at h;intro p hp e;exact h p hp (by simp [e])
set_option tactic.hygienic true in
theorem C8{l:List (Af×AV)}(k:Af)(x:AV)(h:(l.map (·.1)).Nodup):((Bo l k x).map (·.1)).Nodup:=by
 unfold Bo
 split
 ·have:(l.map (fun p=>if p.1=k then (k,x) else p)).map (·.1)=l.map (·.1):=by
   rw [bc];apply cQ;intro p _;simp only [Function.comp_apply]
   split
   ·rename_i q;exact q.symm
   ·rfl
  rw [this];exact h
 ·rename_i q
  have q':Bq l k=aa:=by simpa using q
  rw [aP,bF];refine ⟨h,by simp,?_⟩
  intro a ha b hb e;simp at hb;obtain ⟨p,hp,rfl⟩:=aZ.mp ha;exact Ll q' p hp (e.trans hb)
theorem BU{h:Heap}{d:Addr}{xs:List (List Int×Addr×Value)}(hm:h.DictOfH (bp (bP S.prog S.w)) d xs):∃n,h.get? d=some (AP (xs.map (cX (bp (bP S.prog S.w)))).toArray n):=by
 obtain ⟨o,es,ep,ho,⟨h1,h2,h3⟩,hd,he,_,_⟩:=hm;refine ⟨ep,?_⟩;obtain ⟨c,dx,dt,sl⟩:=o;simp only at h1 h2 h3 hd;subst h1 h2 h3 hd
 have:es=(xs.map (cX (bp (bP S.prog S.w)))).toArray:=by rw [<- he]
 rw [ho,this]
theorem setItemD{ad:Addr}{l:List (Af×AV)}{k:Af}{x:AV}{vk vx:Value}{Q':Unit->ae->Prop}(ho:V ad=some (.dict l))(hz:l.length<=big)(hs:F.St m V s)(rk:Rep S.cv s.heap (F.D V) (sp k) vk)(rx:Rep S.cv s.heap (F.D V) x vx)
  (h:∀s',F.St m (V.set ad (.dict (Bo l k x))) s'->Step F.P F.O V s (V.set ad (.dict (Bo l k x))) s'->Q' () s'):wpAny (model S.prog S.w) F.A (setItem (.ref ad) vk vx) Q' X s:=by
 refine X4lpp vk rk.spot fun t tx ty n e d=>?_;refine X3ppppp ((Rep.loc (cv:=S.cv) (h:=s.heap) (D:=F.D V) ad 0).dct hs.inv (BV ho)) fun y es n' e1 e' sm nd rd=>?_
 cases e1
 obtain ⟨xs,hx,rfl⟩:=RepD.xs (S:=S) rd;have B:xs.length=l.length:=by have:=rd.length;simpa using this
 refine wpAny_setItem_heap (Bz F) (Ed e) (Ee hx nd e') (fun h' hm sb=>?_) (by rw [B];exact A6 hz)
 refine X1p (BU hm) fun n2 e2=>?_;have da:Dom V ad:=by unfold Dom;rw [ho];simp
 have e0:Ext (F.D V) s.heap h':=Ext.of_but fun b o d e=>sb.extBut b o (fun q=>d (.inl (q▸da))) e;have hD:∀b,DN F.N (V.set ad (.dict (Bo l k x))) b->DN F.N V b\/s.heap.get? b=aa:=fun b q=>.inl (q.imp (fun q=>(A1 q).elim (fun (q:b=ad)=>by rw [q];exact da) id) id)
 have U:XsOf S.cv s.heap (F.D V) (Bo l k x) (storedH xs (key k) t vx):=by
  unfold Bo storedH;rw [Dc hx k]
  split
  ·exact hx.put rx
  ·exact hx.snoc e d rx
 refine Ao (hs.upd (h':=h') da (fun c o ne e=>sb.extBut c o ne e) (s.toks+(bp (bP S.prog S.w)).draws (key k)) (o:=.dict (Bo l k x)) (.dict e2 sm (C8 k x nd) (U.repD.ext e0 hD))) fun h1 st=>?_;exact h _ h1 st.any
set_option tactic.hygienic true in
theorem ST.setitem{o i e:E}(hn:AJ e=true)(h:ET F m V e (fun x Aa=>ET F m Aa o (fun a Ab=>ET F m Ab i (fun k Ap=>∃ad ii l kk,a=.loc ad ii/\k=sp kk/\Ap ad=some (.dict l)/\l.length<=big/\K .next m (Ap.set ad (.dict (Bo l kk x)))) X) X) X):ST F m V (.setitem o i e) K X:=by
 intro ps hc s hs;refine X5lpppp ps hc.inv fun Z Z Z Z Z d ho hi he=>?_;refine wpAny_Assign_Subscript ((h _ he s hs).out ?_) (B4 he hn);intro vx Aa Ac Ai Ad u;obtain ⟨x,rx,AO⟩:=u;refine (AO _ ho Ac Ad).out ?_;intro va Ab Aj An Ah u;obtain ⟨a,ra,Bt⟩:=u;refine (Bt _ hi Aj Ah).out ?_;intro vk Ap BB A0 AI u;obtain ⟨k,rk,ad,ii,l,kk,rfl,rfl,hd,hz,hK⟩:=u;obtain rfl:=ra.inv;refine setItemD hd hz AI rk ((rx.st An Ah).st A0 AI) fun s' h' Y=>?_;exact ⟨.next,m,_,((Ai.trans An).trans A0).trans Y,h',trivial,hK⟩
end
end
section
variable {S:Sta}
section
variable {tb:List Nat}{env:Env}{N Np:Addr->Prop}{b:Store×ae}{m:Vars}{V:Store}{s:ae}{D:Addr}
theorem Loc.map{h h':Heap}{V':Store}{g:Heap}{cv:Nat->Value}(l:Loc cv g tb env m N V h)(own:∀a o,Own env a->h.get? a=some o->h'.get? a=some o)(hd:∀a,Own env a->¬Dom V' a)(r:∀{av v},Rep cv h (DN N V) av v->Rep cv h' (DN Np V') av v):Loc cv g tb env m Np V' h':=by
 obtain ⟨mc,cm,n,cc,ow,ap,cl,rr⟩:=l;refine ⟨mc,cm,?_,fun z a hz=>?_,fun a q=>⟨hd a q,(ow a q).2⟩,ap,cl,fun z j av hj hm=>?_⟩
 ·refine X3pp n fun o es ep e d=>?_;exact ⟨o,es,ep,own _ _ (.inl rfl) e,d⟩
 ·refine X1pp (cc z a hz) fun o e d=>?_;exact ⟨o,own _ _ (.inr ⟨z,hz⟩) e,d⟩
 ·exact LocAt.map (rr z j av hj hm) (fun h2=>r h2) (fun Z h1=>h1) (fun Z h1=>h1)
theorem St.apart{h':Heap}{tk:Nat}(hs:Mine.Internal.St S tb env N P b m V s)(k:∀b o,s.heap.get? b=some o->h'.get? b=some o)(hD:s.heap.get? D=aa)(y:∃o,h'.get? D=some o/\∀vs,o.data≠.fields vs) :
  Mine.Internal.St S tb env (fun a=>N a\/a=D) P b m V { s with heap:=h',toks:=tk }/\Step noO noO V s V { s with heap:=h',toks:=tk }:=by
 refine Ao (hs.grow k tk) fun h1 st=>?_;have e0:Ext (DN N V) s.heap h':=Ext.of_keeps k;have z:∀b,DN (fun a=>N a\/a=D) V b->DN N V b\/s.heap.get? b=aa:=by
  rintro b (q | q | q)
  ·exact .inl (.inl q)
  ·exact .inl (.inr q)
  ·exact .inr (q▸hD)
 refine ⟨⟨⟨h1.inv.keep,h1.inv.gens,h1.inv.drawn,h1.inv.os,h1.inv.σg,?_,?_,fun a o e=>(hs.inv.rep a o e).ext e0 z (k a)⟩,?_,h1.frm,fun a q=>.inl (hs.pN a q),hs.new,fun a q=>.inl (hs.own a q),hs.gb⟩,st⟩
 ·rintro a d (q | q)
  ·exact hs.inv.σN a d q
  ·exact hs.inv.not_dom (q▸hD) d
 ·rintro a (q | q)
  ·exact h1.inv.Nin a q
  ·exact q▸y
 ·have ow:=hs.loc
  obtain ⟨_,_,_,_,ow,_⟩:=ow;exact hs.loc.map (fun a o Z e=>k a o e) (fun a q=>(ow a q).1) fun r=>r.ext e0 z
theorem St.open_(hs:Mine.Internal.St S tb env Np P b m V s)(hN:∀a,N a->Np a)(hO:∀a,Own env a->N a)(O:∀a,P a->N a):Mine.Internal.St S tb env N P b m V s:=by
 have hD:∀b,DN N V b->DN Np V b\/s.heap.get? b=aa:=fun b q=>.inl (q.imp id (hN b));refine ⟨⟨hs.inv.keep,hs.inv.gens,hs.inv.drawn,hs.inv.os,hs.inv.σg,fun a d q=>hs.inv.σN a d (hN a q),fun a q=>hs.inv.Nin a (hN a q),fun a o e=>(hs.inv.rep a o e).ext (Ext.refl _ _) hD fun Z q=>q⟩,?_,hs.frm,O,hs.new,hO,hs.gb⟩;have ow:=hs.loc;obtain ⟨_,_,_,_,ow,_⟩:=ow;exact hs.loc.map (fun a o Z e=>e) (fun a q=>(ow a q).1) fun r=>r.ext (Ext.refl _ _) hD
theorem St.take{o:AObj}(hs:Mine.Internal.St S tb env (fun a=>N a\/a=D) P b m V s)(hO:∀a,Own env a->N a)(O:∀a,P a->N a)(nD:¬N D)(bD:b.2.heap.get? D=aa)(r:RepO S.cv s.heap (DN (fun a=>N a\/a=D) V) o D):Mine.Internal.St S tb env N P b m (V.set D o) s:=by
 have hD:∀b,DN N (V.set D o) b->DN (fun a=>N a\/a=D) V b\/s.heap.get? b=aa:=fun b q=>.inl (q.elim (fun q=>(A1 q).elim (fun q=>.inr (.inr q)) .inl) fun q=>.inr (.inl q));refine ⟨⟨hs.inv.keep,hs.inv.gens,hs.inv.drawn,hs.inv.os,fun a d=>(A1 d).elim (fun (q:a=D)=>by rw [q];exact hs.gb D bD) (hs.inv.σg a),fun a d q=>(A1 d).elim (fun (z:a=D)=>nD (z▸q)) fun d=>hs.inv.σN a d (.inl q),fun a q=>hs.inv.Nin a (.inl q),fun a oa e=>?_⟩,?_,?_,O,hs.new,hO,hs.gb⟩
 ·by_cases z:a=D
  ·clear hs nD bD;subst z;rw [Store.set_self] at e;cases e;exact r.ext (Ext.refl _ _) hD fun Z q=>q
  ·rw [Store.set_ne _ _ z] at e;exact (hs.inv.rep a oa e).ext (Ext.refl _ _) hD fun Z q=>q
 ·have ow:=hs.loc
  obtain ⟨_,_,_,_,ow,_⟩:=ow;exact hs.loc.map (fun a o Z e=>e) (fun a q d=>(A1 d).elim (fun (z:a=D)=>nD (z▸hO a q)) (ow a q).1) fun r=>r.ext (Ext.refl _ _) hD
 ·have f:=hs.frm
  exact ⟨f.ext,f.frm,fun a d=>(A1 d).elim (fun (z:a=D)=>.inr (by rw [z];exact bD)) (f.dom a),f.there⟩
end
section
variable {F:Fx S}{m:Vars}{V:Store}{s:ae}{X:Value->ae->Prop}{Q:AV->Store->Prop}
noncomputable def Fx.with(F:Fx S)(D:Addr):Fx S:=⟨F.A,F.tb,F.env,F.b,fun a=>F.N a\/a=D,F.k,F.room.wide (fun Z q=>.inl q),F.fk,F.fg,F.fb,F.fc⟩
noncomputable def Like(F F':Fx S):Prop:=F'.A=F.A/\F'.tb=F.tb/\F'.env=F.env/\F'.k=F.k
noncomputable def ER(F:Fx S)(m:Vars)(X:Value->ae->Prop)(Q:List (AV×AV)->Store->Prop):List E->List E->List (AV×AV)->Store->Prop
 | [],[],r,V=>Q r V
 | k::ks,v::vs,r,V=>ET F m V k (fun a Aa=>ET F m Aa v (fun b Ab=>ER F m X Q ks vs (r++[(a,b)]) Ab) X) X
 | _,_,_,_=>False
class inductive RepP(cv:Nat->Value)(h:Heap)(D:Addr->Prop):List (AV×AV)->List (Value×Value)->Prop
 | nil:RepP cv h D [] []
 | cons {a b:AV}{u v:Value}{l:List (AV×AV)}{vs:List (Value×Value)}:Rep cv h D a u->Rep cv h D b v->RepP cv h D l vs->RepP cv h D ((a,b)::l) ((u,v)::vs)
theorem RepP.step{cv:Nat->Value}{P O N:Addr->Prop}{V V':Store}{s s':ae}(x:Step P O V s V' s')(hO:∀a,O a->N a)(hP:∀a,P a->N a){l:List (AV×AV)}{vs:List (Value×Value)}(r:RepP cv s.heap (DN N V) l vs):RepP cv s'.heap (DN N V') l vs:=by
 induction r with
 | nil=>exact .nil
 | cons r1 r2 _ ih=>exact .cons (r1.step x hO hP) (r2.step x hO hP) ih
theorem RepP.app{cv:Nat->Value}{h:Heap}{D:Addr->Prop}{l l':List (AV×AV)}{vs y:List (Value×Value)}(r:RepP cv h D l vs)(r':RepP cv h D l' y):RepP cv h D (l++l') (vs++y):=by
 induction r with
 | nil=>exact r'
 | cons r1 r2 _ ih=>exact .cons r1 r2 ih
theorem IN{pos:Pos}{Q:List (AV×AV)->Store->Prop}{ks:List E}:∀{vs:List E}{U:List (Option ai)}{u:List ai}{r:List (AV×AV)}{V:Store}{s:ae}{ru:List (Value×Value)}{Q':List (Value×Value)->ae->Prop},CKs F.tb F.sc U ks->CEs F.tb F.sc u vs->ER F m X Q ks vs r V->F.St m V s->RepP S.cv s.heap (F.D V) r ru ->
  (∀us r' V' s',Step F.P F.O V s V' s'->F.St m V' s'->RepP S.cv s'.heap (F.D V') r' (ru++us)->Q r' V'->Q' us s')->wpAny (model S.prog S.w) F.A (evalPairs (pairTrees U u F.env pos)) Q' X s:=by
 induction ks with
 | nil =>
  intro vs U u r V s ru Q' hk hv h hs rr hQ
  cases vs with
  | cons v vs=>exact h.elim
  | nil =>
   obtain rfl:=hk.inv;obtain rfl:=hv.inv_nil;exact pairTrees_nil_walk (hQ [] r V s (Step.refl _ _ _ _) hs (by rw [aM];exact rr) h)
 | cons k ks ih =>
  intro vs U u r V s ru Q' hk hv h hs rr hQ
  cases vs with
  | nil=>exact h.elim
  | cons v vs =>
   obtain ⟨pk,U,rfl,hk,d⟩:=hk.inv;obtain ⟨pv,u,rfl,hn,hv,z⟩:=hv.inv;refine pairTrees_cons_walk ((h _ hk s hs).out ?_);intro uk Aa Ac Ai Ad y;obtain ⟨a,ra,AO⟩:=y;refine (AO _ hv Ac Ad).out ?_;intro uv Ab Aj An Ah y;obtain ⟨b,rb,Bt⟩:=y;have T:=((rr.step Ai Ad.own Ad.pN).step An Ah.own Ah.pN).app (.cons (ra.st An Ah) rb .nil);refine ih d z Bt Ah T fun us r' V' s' Y h' B q=>hQ _ r' V' s' ((Ai.trans An).trans Y) h' ?_ q;rw [aI] at B;exact B
noncomputable def mkD:List (AV×AV)->List (Af×AV)->Option (List (Af×AV))
 | [],l=>some l
 | p::r,l=>(spot? p.1).bind fun k=>mkD r (Bo l k p.2)
theorem mkD_cons{a b:AV}{r:List (AV×AV)}{l l':List (Af×AV)}(h:mkD ((a,b)::r) l=some l'):∃k:Af,a=sp k/\mkD r (Bo l k b)=some l':=by
 refine X1pp (AG (show (spot? a).bind (fun k=>mkD r (Bo l k b))=some l' from h)) fun k h1 h2=>?_
 exact ⟨k,spot?_out h1,h2⟩
theorem Jw{F:Fx S}{D:Addr}{Q':PUnit->ae->Prop}(U:F.N D)(nO:¬F.O D)(bD:F.b.2.heap.get? D=aa)(sm:(D == cp)=false):∀{r:List (AV×AV)}{us:List (Value×Value)}{l l':List (Af×AV)}{es:List aO}{n:Nat}{s:ae},mkD r l=some l'->l.length+r.length<=big->F.St m V s->RepP S.cv s.heap (F.D V) r us ->
  s.heap.get? D=some (AP es.toArray n)->(l.map (·.1)).Nodup->RepD S.cv s.heap (F.D V) l es ->
  (∀s' B n',F.St m V s'->Step F.P (·=D) V s V s'->s'.heap.get? D=some (AP (aA B) n')->(l'.map (·.1)).Nodup->RepD S.cv s'.heap (F.D V) l' B->Q' PUnit.unit s')->wpAny (model S.prog S.w) F.A (storeAll D us) Q' X s:=by
 intro r
 induction r with
 | nil =>
  intro us l l' es n s hm hz hs rr g nd rd hQ
  cases rr;cases hm
  exact ag (hQ s es n hs (Step.refl _ _ _ _) g nd rd)
 | cons p r ih =>
  intro us l l' es n s hm hz hs rr g nd rd hQ
  cases rr with
  | @cons a bb u v _ vs r1 r2 rs =>
   refine X1pp (mkD_cons hm) fun kk Z0 hm=>?_;subst Z0
   ·refine X4lpp u (Rep.spot (k:=kk) r1) fun t tx ty n1 e d=>?_
    obtain ⟨xs,hx,rfl⟩:=RepD.xs (S:=S) rd;have Y:xs.length=l.length:=by have:=rd.length;simpa using this
    show wpAny _ _ (forIn _ _ _) _ _ _;rw [d0];refine ac (ac (wpAny_dictSet_heap (room_0 F) (Ed e) (Ee hx nd g) (fun h' hmm sb=>?_) (by rw [Y];exact A6 (by exact lin [l.length,((sp kk,bb)::r).length,big] [] (.b V0 V2) [.b (.A V0 V1) V2] rfl hz))))
    refine X1p (BU hmm) fun n2 e2=>?_;obtain ⟨h2,T⟩:=(hs.tok (s.toks+(bp (bP S.prog S.w)).draws (key kk))).turnN (h':=h') U nO bD sb.extBut ⟨_,e2,fun vs z=>by cases z⟩
    have y:Step F.P (·=D) V s V { s with heap:=h',toks:=s.toks+(bp (bP S.prog S.w)).draws (key kk) }:=⟨T.ext,T.frm,T.dom,T.there⟩
    have hO:∀a,a=D->F.N a:=fun a q=>q▸U;have xs':XsOf S.cv s.heap (F.D V) (Bo l kk bb) (storedH xs (key kk) t v):=by
     unfold Bo storedH;rw [Dc hx kk]
     split
     ·exact hx.put r2
     ·exact hx.snoc e d r2
    have hd:(Bo l kk bb).length<=l.length+1:=by unfold Bo;split<;>simp
    refine ag (ih hm (by have hz':l.length+(r.length+1)<=big:=hz;have hd':(Bo l kk bb).length<=l.length+1:=hd;exact aB (Nat.add_le_add_right hd' _) (by exact lin [l.length,r.length,big] [] (.b (.A (.A V0 K1) V1) V2) [.b (.A V0 (.A V1 K1)) V2] rfl hz')) h2 (rs.step y hO hs.pN) e2 (C8 _ _ nd) (xs'.repD.step y hO hs.pN) fun s' B n' h3 st3 g3 nd3 rd3=>?_)
    exact hQ s' B n' h3 (y.trans st3) g3 nd3 rd3
theorem CKs.len{tb:List Nat}{sc:Nms}{U:List (Option ai)}{ks:List E}(h:CKs tb sc U ks):U.length=ks.length/\U.all (·.isSome)=true:=by
 induction ks generalizing U with
 | nil=>obtain rfl:=h.inv;exact ⟨rfl,rfl⟩
 | cons k ks ih=>refine X2lpp U h.inv fun e r Z q=>?_;exact ⟨congrArg e9 (ih q).1,(ih q).2⟩
theorem CEs.len{tb:List Nat}{sc:Nms}{U:List ai}{ks:List E}(h:CEs tb sc U ks):U.length=ks.length:=by
 induction ks generalizing U with
 | nil=>obtain rfl:=h.inv_nil;rfl
 | cons k ks ih=>refine X2lppp U h.inv fun e r Z Z q=>?_;exact congrArg e9 (ih q)
theorem ET.dict0(h:Fresh V (.dict []) (.dict []) Q):ET F m V (.dict [] []) Q X:=by
 intro pe hc s hs;refine X3lpp pe hc.inv fun Z Z Z hk hv=>?_
 cases hk;cases hv
 exact wpAny_Dict_empty (C7 (tk:=s.toks) (es:=[]) (l:=[]) hs (Aw _ _) (Ax _) (aF _ rfl) .nil .nil h)
theorem ET.dict{k v:E}{ks vs:List E}(hlen:ks.length=vs.length)(h15:ks.length<15)(h:∀F':Fx S,Like F F'->ER F' m X (fun r V'=>∃l,mkD r []=some l/\r.length<=15/\Fresh V' (.dict l) (.dict l) Q) (k::ks) (v::vs) [] V):ET F m V (.dict (k::ks) (v::vs)) Q X:=by
 intro pe hc s hs;refine X3lpp pe hc.inv fun pks pvs p hk hv=>?_;refine Ao ((CKs.len (ks:=k::ks) hk)) fun l1 l2=>?_;have l3:=CEs.len (ks:=v::vs) hv;refine wpAny_Dict_any l2 (by rw [l1,l3];simp [hlen]) (by intro e;subst e;simp at l1) (by rw [l1];simp;exact lin [ks.length] [] (.b V0 K14) [.c V0 K15] rfl h15) ?_
 have nD:s.heap.get? s.heap.objs.size=aa:=Ax _;obtain ⟨h1,st1⟩:=St.apart (D:=s.heap.objs.size) (tk:=s.toks) hs (Aw _ { cls:=.type "dict",data:=.dict #[] }) nD ⟨_,aF _ rfl,fun vs z=>by cases z⟩
 generalize hD:s.heap.objs.size=D at *;have g1:(s.heap.push { cls:=.type "dict",data:=.dict #[] }).get? D=some (AP #[] 0):=by rw [<- hD];exact aF _ rfl
 have h1':(F.with D).St m V { s with heap:=s.heap.push { cls:=.type "dict",data:=.dict #[] } }:=h1
 have U:¬F.N D:=fun q=>by refine X1pp (hs.inv.Nin D q) fun o e nf=>?_;rw [nD] at e;cases e
 have nO:¬F.O D:=fun q=>U (hs.own D q);have bD:F.b.2.heap.get? D=aa:=hs.frm.new nD;refine IN (F:=F.with D) (ru:=[]) hk hv (h (F.with D) ⟨rfl,rfl,rfl,rfl⟩) h1' .nil ?_
 intro us r' Ab Aj An Ah rr hR1;refine X1ppp hR1 fun l hml hr15 hfr=>?_;have gD:=An.ext.obj D _ g1 (fun d=>d.elim (fun d=>h1'.inv.σN D d (.inr rfl)) fun d=>d.elim nO fun d=>U (hs.pN D d));refine Jw (F:=F.with D) (V:=Ab) (es:=[]) (l:=[]) (.inr rfl) nO bD (hs.inv.not_sm nD) hml (by simp;exact aB hr15 (by decide)) Ah (by simpa using rr) gD .nil .nil ?_
 intro s' es' n' h3 T g3 Y B;have y:Step F.P F.O V s Ab s':=by
  have z:=(st1.any (O:=F.O)).trans An;have u:∀{a o},s.heap.get? a=some o->¬a=D:=fun e q=>by rw [q,nD] at e;cases e
  exact ⟨⟨fun a o e d=>T.ext.obj a o (z.ext.obj a o e d) fun q=>q.elim (z.ndom e fun q=>d (.inl q)) fun q=>q.elim (u e) fun q=>d (.inr (.inr q))⟩,fun a o e n ho d=>by
   refine X1pppp (z.frm a o e n ho d) fun o' e' c' r1 r2=>?_;refine X1pppp (T.frm a o' e' n (u e) (z.ndom e d)) fun o'' e'' c'' r1' r2'=>?_;exact ⟨o'',e'',c''.trans c',r1'.trans r1,r2'.trans r2⟩,z.dom,fun a o e=>by
   refine X1p (z.there a o e) fun o' e'=>?_;exact T.there a o' e'⟩
 have nDσ:¬Dom Ab D:=fun d=>h3.inv.σN D d (.inr rfl)
 rcases hfr with q | ⟨ii,q⟩
 ·have h4:F.St m Ab s':=St.open_ (N:=F.N) h3 (fun a q=>.inl q) hs.own hs.pN
  exact ⟨Ab,y,h4,_,.dict g3 (fun d=>d.elim nDσ U) (hs.inv.not_sm nD) Y (B.ext (Ext.refl _ _) fun b q=>.inl (q.imp id .inl)),q⟩
 ·have h4:F.St m (Ab.set D (.dict l)) s':=St.take h3 hs.own hs.pN U bD (.dict g3 (hs.inv.not_sm nD) Y B)
  exact ⟨_,⟨y.ext,y.frm,fun a d=>(A1 d).elim (fun (z:a=D)=>.inr (by rw [z];exact nD)) (y.dom a),y.there⟩,h4,_,.loc D ii,q D nDσ⟩
end
end
section
variable {S:Sta}
section
variable {F:Fx S}{m:Vars}{V:Store}{s:ae}{X:Value->ae->Prop}{Q:AV->Store->Prop}
theorem Ga{h:Heap}{D:Addr->Prop}{cv:Nat->Value}{bs:List Bool}{vs:List Value}{i:Nat}{v:Value}(r:RepL cv h D (bs.map .bool) vs)(e:vs[i]?=some v):∃b,bs[i]?=some b/\v=.bool b:=by
 induction bs generalizing vs i with
 | nil=>rw [show vs=[] from r.inv] at e;exact (Ak gL e).elim
 | cons b bs ih =>
  obtain ⟨u,us,rfl,a,r⟩:=r.inv
  cases i with
  | zero=>exact ⟨b,rfl,(ar e).symm.trans a.inv⟩
  | succ i=>exact ih (vs:=us) (i:=i) r e
theorem JS(bs:List Bool):(bt bs.length).all (fun i=>bs.getD i true)=bs.all id:=by
 have:(bt bs.length).map (fun i=>bs.getD i true)=bs:=by
  apply d7;intro i
  by_cases h:i<bs.length
  ·simp [h]
  ·simp [h]
 have h:=List.all_map (f:=fun i=>bs.getD i true) (p:=id) (l:=bt bs.length);rw [this] at h;exact h.symm
theorem JR(bs:List Bool):(bt bs.length).any (fun i=>bs.getD i true)=bs.any id:=by
 have:(bt bs.length).map (fun i=>bs.getD i true)=bs:=by
  apply d7;intro i
  by_cases h:i<bs.length
  ·simp [h]
  ·simp [h]
 have h:=List.any_map (f:=fun i=>bs.getD i true) (p:=id) (l:=bt bs.length);rw [this] at h;exact h.symm
theorem CT.all(hq:S.hx=aa){a:AV}{bs:List Bool}(ha:dl V a=some (bs.map .bool))(h:Q (.bool (bs.all id)) V):CT F m V (.builtin "all") [a] Q X:=by
 intro U s hs r;refine X1lp U r.one fun v ra=>?_;refine X3lpp v (ra.lst hs.inv ha) fun ad vs n e rl=>?_;have hL:s.heap.IsList ad vs.toArray:=⟨_,e,rfl,n,rfl⟩;have d:ad≠s.heap.objs.size:=bK (bh e);have B:vs.toArray.size=bs.length:=by have:=rl.length;simpa using this
 refine call_all_walk (ff hL ⟨_,_,_,_,_,_,fun i=>bs.getD i true,rfl,Walks.list (A:=F.A.in1) (F.room.quiet hq) s.heap.objs.size ad d vs.toArray,⟨⟨_,aF _ rfl,rfl,rfl⟩,⟨_,ax _ e,rfl,n,rfl⟩⟩,?_,fun h' tk k=>?_⟩)
 ·intro i v s' Q' E' hP hq
  refine X1pl v (Ga rl (i:=i) (by simpa using hP)) fun b hb=>?_
  refine cr ?_
  have:bs.getD i true=b:=by simp [List.getD,hb]
  simp only [this] at hq;exact hq
 ·refine Ao (hs.grow (h':=h') (fun b o eb=>k b o (by simp;exact bK (bh eb)) (ax _ eb)) tk) fun h1 st=>?_
  rw [B,JS];exact ⟨V,st.any,h1,_,.bool _,h⟩
theorem CT.any(hq:S.hx=aa){a:AV}{bs:List Bool}(ha:dl V a=some (bs.map .bool))(h:Q (.bool (bs.any id)) V):CT F m V (.builtin "any") [a] Q X:=by
 intro U s hs r;refine X1lp U r.one fun v ra=>?_;refine X3lpp v (ra.lst hs.inv ha) fun ad vs n e rl=>?_;have hL:s.heap.IsList ad vs.toArray:=⟨_,e,rfl,n,rfl⟩;have d:ad≠s.heap.objs.size:=bK (bh e);have B:vs.toArray.size=bs.length:=by have:=rl.length;simpa using this
 refine call_any_walk (ff hL ⟨_,_,_,_,_,_,fun i=>bs.getD i true,rfl,Walks.list (A:=F.A.in1) (F.room.quiet hq) s.heap.objs.size ad d vs.toArray,⟨⟨_,aF _ rfl,rfl,rfl⟩,⟨_,ax _ e,rfl,n,rfl⟩⟩,?_,fun h' tk k=>?_⟩)
 ·intro i v s' Q' E' hP hq
  refine X1pl v (Ga rl (i:=i) (by simpa using hP)) fun b hb=>?_
  refine cr ?_
  have:bs.getD i true=b:=by simp [List.getD,hb]
  simp only [this] at hq;exact hq
 ·refine Ao (hs.grow (h':=h') (fun b o eb=>k b o (by simp;exact bK (bh eb)) (ax _ eb)) tk) fun h1 st=>?_
  rw [B,JR];exact ⟨V,st.any,h1,_,.bool _,h⟩
theorem strsAre{h:Heap}{D:Addr->Prop}{cv:Nat->Value}{ys:List Str}{vs:List Value}(r:RepL cv h D (ys.map .str) vs):StrsAre vs ys:=by
 induction ys generalizing vs with
 | nil=>rw [show vs=[] from r.inv];exact .nil
 | cons y ys ih =>
  refine X2lpp vs r.inv fun u us a rr=>?_;refine X1l u a.inv fun t=>?_;exact .cons _ _ (ih rr)
theorem CT.join{x:Str}{a:AV}{ys:List Str}(ha:dl V a=some (ys.map .str))(d:(ys.map (·.length)).sum+ys.length * x.length<=1000000)(h:Q (.str (Txt.join x ys)) V):CT F m V (.builtin "str.join") [.str x,a] Q X:=by
 intro U s hs r;refine X2lpp U r.two fun v u ra rb=>?_;refine X1l v ra.inv fun Z=>?_;refine X3lpp u (rb.lst hs.inv ha) fun ad vs n e rl=>?_;exact join_list ⟨_,e,rfl,n,rfl⟩ (by simpa using strsAre rl) (aB d (by decide)) fun t' k=>Et _ hs (.str _ _) h
theorem Walks.heapDict{A:cz}(hh:A.handled=none)(I d:Addr)(T:d≠I)(es:Array aO)(ep:Nat) :
  Walks S.prog S.w A I [I,d] [I] es.size (fun i v=>∃e,es[i]?=some e/\v=e.key) (fun i h=>h.IsKeyIter I d i es.size ep/\DictE h d es ep) where
 sub:=fun b hb=>by simp at hb;simp [hb]
 frame:=fun Z Z Z st hk=>⟨(let ⟨o,ho,r⟩:=st.1;⟨o,hk I (by simp) o ho,r⟩),hk d (by simp) _ st.2⟩
 item:=fun i s Q E hi st hQ=>by
  refine H4 st.1 st.2 (e:=es[i]) (by simp [hi]) fun h' y z=>?_
  exact hQ _ h' s.toks ⟨_,by simp [hi],rfl⟩ ⟨y,z.extBut d _ T st.2⟩ fun b o hb e=>z.extBut b o (fun h=>hb (by simp [h])) e
 done:=fun s Q E st hQ=>Lk hh st.1 st.2 (ay _) fun h' Y=>hQ h' s.toks fun b o hb e=>Y b o (fun h=>hb (by simp [h])) e
 self:=fun Z Z Z Z st hQ=>wpAny_pyIter_keyiter st.1 hQ
theorem srcDict{d:Addr}{es:Array aO}{ep:Nat}(lo:(d == cp)=false):KdlSrc S.prog S.w "dict" d d es.size (fun i v=>∃e,es[i]?=some e/\v=e.key) (fun h=>DictE h d es ep) where
 type:=fun Z hm=>hm.typeIs
 there:=fun Z hm=>⟨bh hm,bh hm⟩
 keep:=fun Z Z hm hk=>hk d (.inl rfl) _ hm
 notList:=by decide
 notTuple:=by decide
 hint:=fun Z Z Z Z hm hq=>kdl_hint_dict hm.typeIs hq
 iter:=fun Z Z hh hm=>⟨_,_,(fun Z Z hq=>H5 lo hm hq),Walks.heapDict hh _ d (bK (bh hm)) es ep,⟨⟨_,aF _ rfl,rfl,rfl⟩,ax _ hm⟩⟩
theorem repKeys{h:Heap}{D:Addr->Prop}{cv:Nat->Value}{l:List (Af×AV)}{es:List aO}(r:RepD cv h D l es):RepL cv h D (l.map fun p=>sp p.1) (es.map (·.key)):=by
 induction l generalizing es with
 | nil=>rw [show es=[] from r.inv];exact .nil
 | cons p l ih=>refine X6lpppp es r.inv fun t tx ty n v us e d a b=>?_;exact .cons (.tup (vs:=[_,_]) e d (.cons (.int _ _) (.cons (.int _ _) .nil))) (ih b)
theorem CT.listDict(hq:S.hx=aa){a:AV}{l:List (Af×AV)}(ha:dd V a=some l)(hz:l.length<=big)(h:Fresh V (.list (l.map fun p=>sp p.1)) (.list (l.map fun p=>sp p.1)) Q):CT F m V (.type "list") [a] Q X:=by
 intro U s hs r;refine X1lp U r.one fun v ra=>?_;refine X3lppp v (ra.dctE hs ha) fun ad es n e sm rd=>?_;refine kdl_call (srcDict (ep:=n) sm) (F.room.quiet hq) e (by rw [aG,rd.length];exact A6 hz) fun h' tk u c' k e' hi=>?_
 refine Ao hi fun h1 h2=>?_
 have:u=(es.map (·.key)).toArray:=by
  apply Array.ext
  ·simp [h1]
  ·intro i y d
   refine X1pp (h2 i u[i] (by simp [y])) fun en he hv=>?_
   simp only [List.getElem_toArray,ic];rw [hv]
   have:es[i]?=some en:=by simpa using he
   rw [aE (by simpa using d)] at this
   rw [ar this]
 rw [this] at e';exact BD (tk:=tk) hs k (Ax _) e' (repKeys rd) h
end
end
section
variable {S:Sta}
structure Ea(S:Sta)(C:Addr):Prop where
 cv:S.cv BR=.ref C
 get:plainGet S.K C "texts"=true
 has:hasDictIn S.K C=true
 setattr:gR S.K (.ref C) "__setattr__"=some (some (.builtin "object.__setattr__"))
 over:plainOver S.K C=true
 make:makesIn S.K C=true
structure Field(S:Sta)(C:Addr)(nm:Str):Prop where
 find:gR S.K (.ref C) nm=some aa
 take:takerIn S.K C nm=some aa
noncomputable def KW(fs:List (Str×AV))(nm:Str):Option AV:=(fs.find? fun p=>p.1 == nm).map (·.2)
noncomputable def Jh:List (Str×AV)->Str->AV->List (Str×AV)
 | [],nm,x=>[(nm,x)]
 | p::r,nm,x=>if p.1 == nm then (p.1,x)::r else p::Jh r nm x
noncomputable def D8(V:Store):AV->Option (List (Str×AV))
 | .inst fs=>some fs
 | .loc a _=>(V a).bind fun o=>o.inst?.bind fun dx=>(V dx).bind AObj.attrs?
 | _=>aa
theorem EO{V:Store}{a dx:Addr}{i:Nat}{fs:List (Str×AV)}(h1:V a=some (.inst dx))(h2:V dx=some (.attrs fs)):D8 V (.loc a i)=some fs:=by
 show (V a).bind _=_;rw [h1];show (V dx).bind _=_;rw [h2];rfl
theorem RepF.get{h:Heap}{D:Addr->Prop}{cv:Nat->Value}{nm:Str}{fs:List (Str×AV)}{es:List aO}(r:RepF cv h D fs es):(∀{x},KW fs nm=some x->∃v,getL nm es=some (some v)/\Rep cv h D x v)/\(KW fs nm=aa->getL nm es=some aa):=by
 induction fs generalizing es with
 | nil=>rw [show es=[] from r.inv];exact ⟨fun h=>(Ak rfl h).elim,fun Z=>rfl⟩
 | cons p l ih =>
  obtain ⟨n,x⟩:=p;obtain ⟨Y,t,v,es,rfl,r,rs⟩:=r.inv;have ih:=ih rs;unfold KW getL at ih ⊢
  by_cases q:(n == nm)=true
  ·have q':(Value.str n t).isStr nm=true:=q
   simp only [dC,q,q',cR];exact ⟨fun h=>⟨v,rfl,ar h▸r⟩,fun h=>(Ak h rfl).elim⟩
  ·have q1:(n == nm)=false:=by simpa using q
   have q':(Value.str n t).isStr nm=false:=q1;have q2:DictEntry.refKey ⟨Y,.str n t,v⟩=false:=rfl;simp only [dC,q1,q',fK,q2,Bool.false_or];exact ih
theorem RepF.put{h:Heap}{D:Addr->Prop}{cv:Nat->Value}{nm:Str}{x:AV}{v:Value}{Y:Int}{t:Tok}(rx:Rep cv h D x v){fs:List (Str×AV)}{es:List aO}(r:RepF cv h D fs es):RepF cv h D (Jh fs nm x) (putL nm Y (.str nm t) v es):=by
 induction fs generalizing es with
 | nil=>rw [show es=[] from r.inv];exact .cons rx .nil
 | cons p l ih =>
  obtain ⟨n,y⟩:=p;obtain ⟨T,t',v',es,rfl,r,rs⟩:=r.inv;unfold Jh putL
  by_cases q:(n == nm)=true
  ·have q':(Value.str n t').isStr nm=true:=q
   simp only [q,q',if_true];exact .cons rx rs
  ·have q1:(n == nm)=false:=by simpa using q
   have q':(Value.str n t').isStr nm=false:=q1;simp only [q1,q',bT,if_false];exact .cons r (ih rs)
theorem RepF.length{h:Heap}{D:Addr->Prop}{cv:Nat->Value}{fs:List (Str×AV)}{es:List aO}(r:RepF cv h D fs es):es.length=fs.length:=by
 induction fs generalizing es with
 | nil=>rw [show es=[] from r.inv];rfl
 | cons p l ih=>obtain ⟨a,b,c,d,rfl,_,r⟩:=r.inv;exact congrArg e9 (ih r)
section
variable {F:Fx S}{m:Vars}{V:Store}{s:ae}{X:Value->ae->Prop}{Q:AV->Store->Prop}{K:Fl->Vars->Store->Prop}{C:Addr}
theorem Rep.instAt{a:AV}{v:Value}{fs:List (Str×AV)}(hC:Ea S C)(r:Rep S.cv s.heap (F.D V) a v)(hs:F.St m V s)(h:D8 V a=some fs) :
  ∃x dx es n,v=.ref x/\InstAt s.heap x (Dg (.ref C) dx) C (some (dictOf es n))/\RepF S.cv s.heap (F.D V) fs es:=by
 cases a with
 | inst fs' =>
  obtain ⟨x,dx,es,n,rfl,e,nf,f,d,d2,r⟩:=r.inv;rw [hC.cv] at e;exact ⟨_,_,_,_,rfl,⟨e,rfl,rfl,f⟩,ar h▸r⟩
 | loc x ii =>
  refine X1pp (AG (show (V x).bind (fun o=>o.inst?.bind fun dx=>(V dx).bind AObj.attrs?)=some fs from h)) fun o e h1=>?_
  refine X1pp (AG h1) fun dx h2 h3=>?_;refine X1pp (AG h3) fun o' e' h4=>?_;obtain rfl:=AObj.inst?_out h2;obtain rfl:=AObj.attrs?_out h4;refine Ao ((hs.inv.rep x _ e).inv) fun g Z=>?_;refine X2pp ((hs.inv.rep dx _ e').inv) fun es n g' q=>?_;rw [hC.cv] at g;exact ⟨x,dx,es,n,r.inv,⟨g,rfl,rfl,g'⟩,q⟩
 | _=>exact (Ak rfl h).elim
noncomputable def noCls:AV->Bool
 | .cls _=>false
 | _=>true
theorem Rep.handed{a:AV}{v:Value}{cv:Nat->Value}{h:Heap}{D:Addr->Prop}(r:Rep cv h D a v)(hc:noCls a=true):handedIn v=true:=by
 induction r using Rep.casesOn<;>first | rfl | exact (aH hc).elim
theorem ET.attr{i n:Nat}{nm:Str}{a x:AV}{fs:List (Str×AV)}(hC:Ea S C)(hf:Field S C nm)(hn:ixS AT nm=some n)(hm:m i=some a)(ha:D8 V a=some fs)(hx:KW fs nm=some x)(hc:noCls x=true)(h:Q x V):ET F m V (.attr (.v i) n) Q X:=by
 intro pe T s hs;refine X4lpp pe T.inv fun y q at_ p hy hk=>?_
 have:at_=nm:=BK hk hn
 clear hn;subst this;refine Attribute_name (wpAny_Name (load_v hy hm hs fun v r=>?_) (A4 hy.ok));refine X4lpp v (r.instAt hC hs ha) fun ad dx es n' I rf=>?_;refine X1pp (rf.get.1 hx) fun u hu ru=>?_;exact get_value (S.X.keeps hs.inv.keep) I (plainGet_of hC.get).1 (findObj_own hC.has hf.find rfl hu) (ru.handed hc) (Et _ hs ru h)
theorem setAttrT{ad dx:Addr}{nm:Str}{fs:List (Str×AV)}{x:AV}{vx:Value}{Q':Unit->ae->Prop}(hC:Ea S C)(hf:Field S C nm)(ho:V ad=some (.inst dx))(hd:V dx=some (.attrs fs))(hz:fs.length<=100)(hs:F.St m V s)(rx:Rep S.cv s.heap (F.D V) x vx)
  (h:∀s',F.St m (V.set dx (.attrs (Jh fs nm x))) s'->Step F.P F.O V s (V.set dx (.attrs (Jh fs nm x))) s'->Q' () s'):wpAny (model S.prog S.w) F.A (setAttr (.ref ad) nm vx) Q' X s:=by
 refine X4ppp ((Rep.loc (cv:=S.cv) (h:=s.heap) (D:=F.D V) ad 0).instAt hC hs (fs:=fs) (EO ho hd)) fun x' y es n e1 I rf=>?_;obtain rfl:=b4 e1;have U:y=dx:=by
  refine Ao ((hs.inv.rep ad _ ho).inv) fun g Z=>?_;rw [hC.cv] at g;have:=I.at_;rw [g] at this;cases this;rfl
 clear ho;subst U;have D:s.heap.get? y=some (dictOf es n):=I.dict;have da:Dom V y:=by unfold Dom;rw [hd];simp
 have KX:=S.X.keeps hs.inv.keep;refine set_plain KX I hC.setattr ?_;have I1:InstAt ({ s with toks:=s.toks+1 }:ae).heap ad (Dg (.ref C) y) C (some (dictOf es n)):=I
 refine osa_open (s:={ s with toks:=s.toks+1 }) (K:=S.K) KX I1 hC.over hf.take fun b=>?_
 refine X1pp (any_some hC.has) fun cd hc T=>?_;refine ac (ag (ac (ac (wpAny_loadPart I.at_ (ac (Looks.here (s:={ s with toks:=s.toks+1 }) (looks_clsIn KX hc) ?_))))))
 rw [T];refine ag (a:=some y) (ac (ag (ac ?_)));unfold nsSet;refine ac (ac (wpAny_askSetting (ag (ac (wpAny_mkText (ac (wpAny_loadPart D ?_)))))));dsimp only;have c:(!es.toArray.any (·.key.isStr nm) && es.toArray.any (·.refKey))=false:=by
  have:es.toArray.any (·.refKey)=false:=by
   rw [<- Array.any_toList];have B:∀{fs:List (Str×AV)}{es:List aO},RepF S.cv s.heap (F.D V) fs es->es.any (·.refKey)=false:=by
    intro fs
    induction fs with
    | nil=>intro es r;rw [show es=[] from r.inv];rfl
    | cons p fs ih=>intro es r;refine X4lpp es r.inv fun Z Z Z Z Z rs=>?_;rw [fK,ih rs];rfl
   simpa using B rf
  rw [this,Bool.and_false]
 rw [aRefKeyMayBeTheName_at,c];refine wpAny_updatePart D ?_;have e0:∀(Y:Int)(key:Value),eY nm Y key vx (dictOf es n)=dictOf (putL nm Y key vx es) (putN nm es n):=fun Y key=>putName_dict nm Y key vx es n;have D':∀(Y:Int)(key:Value),(s.heap.update y (eY nm Y key vx)).get? y=some (dictOf (putL nm Y key vx es) (putN nm es n)):=fun Y key=>by
  have:=bL (eY nm Y key vx) D (by rw [e0];rfl)
  rw [e0] at this;exact this
 have len:∀(Y:Int)(key:Value)(l:List aO),(putL nm Y key vx l).length<=l.length+1:=by
  intro Y key l
  induction l with
  | nil=>simp [putL]
  | cons p r ih=>unfold putL;split<;>simp<;>exact lin [(putL nm Y key vx r).length,r.length] [] (.b V0 (.A V1 K1)) [.b V0 (.A V1 K1)] rfl ih
 refine ac (wpAny_lookBehind (D' _ _) (pastItsLine_dict (by rw [aG];refine dG (A6 (aB (len _ _ es) ?_));rw [rf.length];exact aB (ie hz) (by decide))) ?_)
 have kp:∀(Y:Int)(key:Value),di y s.heap (s.heap.update y (eY nm Y key vx)):=fun Y key=>(bq ..).extBut;have z:∀(Y:Int)(t:Tok)(tk:Nat),Q' () { s with heap:=s.heap.update y (eY nm Y (.str nm t) vx),toks:=tk }:=by
  intro Y t tk;have e1:Ext (F.D V) s.heap (s.heap.update y (eY nm Y (.str nm t) vx)):=Ext.of_but fun b o d e=>kp _ _ b o (fun q=>d (.inl (q▸da))) e
  obtain ⟨h1,st⟩:=hs.upd (h':=s.heap.update y (eY nm Y (.str nm t) vx)) da (fun c o ne e=>kp _ _ c o ne e) tk (o:=.attrs (Jh fs nm x))
   (.attrs (D' _ _) ((rf.put rx).ext e1 fun b q=>.inl (q.imp (fun q=>(A1 q).elim (fun (q:b=y)=>by rw [q];exact da) id) id)))
  exact h _ h1 st.any
 exact ag (z _ _ _)
set_option tactic.hygienic true in
theorem ST.setattr{o e:E}{n:Nat}{nm:Str}(hC:Ea S C)(hf:Field S C nm)(O:ixS AT nm=some n)(hn:AJ e=true)
  (h:ET F m V e (fun x Aa=>ET F m Aa o (fun a Ab=>∃ad ii dx fs,a=.loc ad ii/\Ab ad=some (.inst dx)/\Ab dx=some (.attrs fs)/\fs.length<=100/\K .next m (Ab.set dx (.attrs (Jh fs nm x)))) X) X):ST F m V (.setattr o n e) K X:=by
 intro ps hc s hs;refine X5lppp ps hc.inv fun po a pe p q ho hk he=>?_
 have:a=nm:=BK hk O
 clear O;subst this;refine plainObj_wpAny_Assign_Attribute ((h _ he s hs).out ?_) (B4 he hn);intro vx Aa Ac Ai Ad u;obtain ⟨x,rx,AO⟩:=u;refine (AO _ ho Ac Ad).out ?_;intro va Ab Aj An Ah u;obtain ⟨a',ra,ad,ii,dx,fs,rfl,h3,h4,hz,hK⟩:=u;obtain rfl:=ra.inv;refine setAttrT hC hf h3 h4 hz Ah (rx.st An Ah) fun s' h' Y=>?_;exact ⟨.next,m,_,(Ai.trans An).trans Y,h',trivial,hK⟩
theorem ET.method{o:E}{n:Nat}{nm:Str}{f:Addr}{T:List E}(hC:Ea S C)(hn:ixS AT nm=some n)(hf:gR S.K (.ref C) nm=some (some (.ref f)))(ht:isFn S.K (.ref f)=true)(hk:keepIn S.K (.ref f)=true)
  (h:ET F m V o (fun a Aa=>(∃fs,D8 Aa a=some fs/\KW fs nm=aa)/\ArgsT F m Aa T (fun avs Ab=>CT F m Ab (.ref f) (a::avs) Q X) X) X):ET F m V (.meth o n T) Q X:=by
 intro pe hc s hs;obtain ⟨po,a,ap,z,p,rfl,B,d,hlen,ho,hk',ha⟩:=hc.inv
 have:a=nm:=BK hk' hn
 clear hn;subst this;have Y:=LE (nm:=a) (env:=F.env) (x:=eval po F.env) B;have hfew:=H9 (pos:=p) ha hlen;have O:(ap.endLine == p.line)=true:=by simpa using d
 show wpAny _ _ (eval (.Call (.Attribute po a ap) z [] p) F.env) _ _ _;rw [arm_eval_Call,Y];refine ac ((h _ ho s hs).out ?_);intro ov Aa Ac Ai Ad hR1;obtain ⟨av,ra,⟨fs,hfs,hno⟩,y⟩:=hR1;refine ac (dn ?_);have u:methodCallForm (z.length+([]:List Keyword).length) (backTo p (e8 z F.env)) (backToKw p (keywordEach [] F.env))=true:=hfew;have hpos:methodCallPos true po F.env ap p=pure p:=by unfold methodCallPos;simp [O]
 unfold methodCall;rw [u];refine X4ppp (ra.instAt hC Ad hfs) fun x dx es n' Z1 I rf=>?_;subst Z1;refine ac (bA (method_fn (S.X.keeps Ad.inv.keep) I (plainGet_of hC.get).1 (plainGet_of hC.get).2 hf (beq_iff_eq.mp ht) (by show (lookIn a (dictOf es n')).map _=_;rw [lookIn_dict,rf.get.2 hno];rfl) ?_))
 refine ac (wpAny_of_eq hpos ?_)
 cases T with
 | nil =>
  obtain rfl:=ha.inv_nil;refine EF (Callable.own hk) Ad ?_;exact (y [.ref x] Ac Ad (.cons ra .nil)).later Ai
 | cons e0 r0 =>
  refine X2lppp z ha.inv fun Z Z hn1 Z0 hr1=>?_;refine CQ (.cons hn1 Z0 hr1) (Callable.own hk) y Ad ?_;intro U avs Ab Aj An Ah rl q;exact (q (.ref x::U) Aj Ah (.cons (ra.st An Ah) rl)).later (Ai.trans An)
end
end
section
variable {S:Sta}
section
variable {N:Addr->Prop}{V V':Store}{v:AV}
theorem View.same:View S N v V v V:=fun Z Z hi r=>⟨hi,Step.refl _ _ _ _,r⟩
inductive Froze(V:Store):List Addr->AV->AV->Prop
 | same (v:AV):Froze V [] v v
 | list {a:Addr}{ii:Nat}{l:List AV}:V a=some (.list l)->Froze V [a] (.loc a ii) (.list l)
 | dict {a:Addr}{ii:Nat}{l:List (Af×AV)}:V a=some (.dict l)->Froze V [a] (.loc a ii) (.dict l)
class inductive FrozeF(V:Store):List Addr->List (Str×AV)->List (Str×AV)->Prop
 | nil:FrozeF V [] [] []
 | cons {as bs:List Addr}{n:Str}{v v':AV}{l l':List (Str×AV)}:Froze V as v v'->FrozeF V bs l l'->FrozeF V (as++bs) ((n,v)::l) ((n,v')::l')
noncomputable def Store.dels(V:Store)(as:List Addr):Store:=fun b=>if b∈as then aa else V b
theorem CK{as:List Addr}{b:Addr}{o:AObj}(h:(V.dels as) b=some o):b∉as/\V b=some o:=by
 unfold Store.dels at h
 by_cases q:b∈as
 ·rw [if_pos q] at h;cases h
 ·rw [if_neg q] at h;exact ⟨q,h⟩
theorem A5{as:List Addr}{a:Addr}(h:a∈as):¬Dom (V.dels as) a:=fun d=>d (if_pos h)
theorem Froze.rep{s:ae}{as al:List Addr}{v v':AV}{u:Value}(f:Froze V as v v')(hi:Inv S N V s)(z:∀a∈as,a∈al)(st:Step noO noO V s (V.dels al) s)(r:Rep S.cv s.heap (DN N V) v u):Rep S.cv s.heap (DN N (V.dels al)) v' u:=by
 induction f with
 | same=>exact r.step st (fun Z h=>h.elim) (fun Z h=>h.elim)
 | @list a ii l h =>
  obtain rfl:=r.inv;refine X2pp ((hi.rep a _ h).inv) fun vs n e r=>?_;exact .list e (fun d=>d.elim (A5 (z a (.head _))) (hi.σN a (by unfold Dom;rw [h];simp))) (r.step st (fun Z h=>h.elim) (fun Z h=>h.elim))
 | @dict a ii l h =>
  obtain rfl:=r.inv;refine X2pppp ((hi.rep a _ h).inv) fun vs n e sm nd r=>?_;exact .dict e (fun d=>d.elim (A5 (z a (.head _))) (hi.σN a (by unfold Dom;rw [h];simp))) sm nd (r.step st (fun Z h=>h.elim) (fun Z h=>h.elim))
theorem FrozeF.rep{s:ae}{al:List Addr}(hi:Inv S N V s)(st:Step noO noO V s (V.dels al) s){as:List Addr}{fs fs':List (Str×AV)}{es:List aO}(f:FrozeF V as fs fs')(z:∀a∈as,a∈al)(r:RepF S.cv s.heap (DN N V) fs es):RepF S.cv s.heap (DN N (V.dels al)) fs' es:=by
 induction f generalizing es with
 | nil=>rw [show es=[] from r.inv];exact .nil
 | cons f fr ih =>
  obtain ⟨_,_,_,_,rfl,r,rs⟩:=r.inv;exact .cons (f.rep hi (fun a h=>z a (aN.mpr (.inl h))) st r) (ih (fun a h=>z a (aN.mpr (.inr h))) rs)
theorem View.inst{x dx:Addr}{ii:Nat}{fs fs':List (Str×AV)}{as:List Addr}(h:V x=some (.inst dx))(h':V dx=some (.attrs fs))(f:FrozeF V as fs fs'):View S N (.loc x ii) V (.inst fs') (V.dels (x::dx::as)):=fun s u hi r=>by
 refine Ao (hi.drop (V':=V.dels (x::dx::as)) fun b o e=>(CK e).2) fun i st=>?_;refine ⟨i,st,?_⟩
 ··obtain rfl:=r.inv
   refine Ao ((hi.rep x _ h).inv) fun e nf=>?_;refine X2pp ((hi.rep dx _ h').inv) fun es n e' r=>?_;exact .inst e nf e' (fun d=>d.elim (A5 (.head _)) (hi.σN x (by unfold Dom;rw [h];simp))) (fun d=>d.elim (A5 (.tail _ (.head _))) (hi.σN dx (by unfold Dom;rw [h'];simp)))
    (FrozeF.rep hi st f (fun a q=>.tail _ (.tail _ q)) r)
end
section
variable {F:Fx S}{m:Vars}{V:Store}{X:Value->ae->Prop}{Q:AV->Store->Prop}{C:Addr}
theorem Room.in1{N:Addr->Prop}{k:Nat}{A:cz}(h:Room S N (k+1) A):Room S N k A.in1:=⟨h.hh,h.fr,by have:=h.dp;show A.depth+2 * k<900;exact lin [A.depth,k] [] (.c (.A V0 (.M 2 V1)) Gk) [.c (.A V0 (.M 2 (.A V1 K1))) Gk] rfl this,by have:=h.un;show A.units+1+20 * k<9000;exact lin [A.units,k] [] (.c (.A (.A V0 K1) (.M 20 V1)) BG) [.c (.A V0 (.M 20 (.A V1 K1))) BG] rfl this⟩
theorem CT.make{k:Nat}{fI:Addr}{u:List AV}{Y:KX}(hC:Ea S C)(hi:gR S.K (.ref C) "__init__"=some (some (.ref fI)))(hf:isFn S.K (.ref fI)=true)(hk:k+1<=F.k)
  (h:∀x dx,¬Dom V x->¬Dom V dx->x≠dx->CallT S k (.ref fI) (.loc x 0::u) ((V.set dx (.attrs [])).set x (.inst dx)) (fun av Ab=>av=.none/\∀N,∃v' Ap,View S N (.loc x 0) Ab v' Ap/\Q v' Ap) Y):CT F m V (.ref C) u Q (XF F m Y):=by
 intro U s hs rl;refine wpAny_call ?_;have e1:s=⟨s.heap,s.gens,s.drawn,s.toks,s.os⟩:=rfl;rw [e1];refine make_core (makes_of (S.X.keeps hs.inv.keep) hC.make) (looks_findIn (S.X.keeps hs.inv.keep) hi) (fun d=>bind_fn (S.X.keeps hs.inv.keep) d (beq_iff_eq.mp hf)) (.inl rfl) ?_;generalize hA:F.A.under (.builtin "type.__call__" ⟨.ref C::U,[]⟩)=A';have fx:s.heap.get? s.heap.objs.size=aa:=Ax _;have fy:s.heap.get? (s.heap.objs.size+1)=aa:=by
  cases q:s.heap.get? (s.heap.objs.size+1) with
  | none=>rfl
  | some o=>exact absurd (bh q) (cO.mpr (fO _))
 have ne:s.heap.objs.size+1≠s.heap.objs.size:=ib _;have g1:(s.heap.push gp).get? s.heap.objs.size=some (AP #[] 0):=aF _ rfl;refine Ao (hs.inv.new (h':=s.heap.push gp) (Aw _ _) s.toks (a:=s.heap.objs.size) fx (o:=.attrs []) (.attrs (es:=[]) g1 .nil)) fun i1 st1=>?_;have fz:(s.heap.push gp).get? (s.heap.objs.size+1)=aa:=by
  have:=Ax (s.heap.push gp)
  rw [cG] at this;exact this
 have g2:((s.heap.push gp).push (instObj C s.heap.objs.size)).get? (s.heap.objs.size+1)=some (Dg (S.cv BR) s.heap.objs.size):=by
  rw [hC.cv]
  have:=aF (s.heap.push gp) (o:=instObj C s.heap.objs.size) rfl
  rw [cG] at this;exact this
 refine Ao (i1.new (h':=(s.heap.push gp).push (instObj C s.heap.objs.size)) (Aw _ _) s.toks (a:=s.heap.objs.size+1) fz (o:=.inst s.heap.objs.size) (.inst g2 ⟨C,hC.cv⟩)) fun i2 st2=>?_;have st:=st1.trans st2;have eF:A'.frames=F.A.frames:=by rw [<- hA];rfl
 have eP:∀a,Frm A' a->F.P a:=fun a ⟨l,h1,h2⟩=>⟨l,eF▸h1,h2⟩;have room:Room S F.N k A':=by
  rw [<- hA];have h1:(F.A.under (.builtin "type.__call__" ⟨.ref C::U,[]⟩)).handled=F.A.handled:=rfl;have h2:(F.A.under (.builtin "type.__call__" ⟨.ref C::U,[]⟩)).depth=F.A.depth+1:=rfl;have h3:(F.A.under (.builtin "type.__call__" ⟨.ref C::U,[]⟩)).units=F.A.units+1:=rfl;exact ⟨h1.trans F.room.hh,F.room.fr,by rw [h2];have:=F.room.dp;exact lin [k,F.k,F.A.depth] [] (.c (.A (.A V2 K1) (.M 2 V0)) Gk) [.B 2 (.A V0 K1) V1,.c (.A V2 (.M 2 V1)) Gk] rfl hk this,by rw [h3];have:=F.room.un;exact lin [k,F.k,F.A.units] [] (.c (.A (.A V2 K1) (.M 20 V0)) BG) [.B 20 (.A V0 K1) V1,.c (.A V2 (.M 20 V1)) BG] rfl hk this⟩
 have hc:=h (s.heap.objs.size+1) s.heap.objs.size (hs.inv.not_dom fy) (hs.inv.not_dom fx) ne F.N A' (.ref (s.heap.objs.size+1)::U) _ room i2 (.cons (.loc _ _) (rl.step st (fun Z h=>h.elim) (fun Z h=>h.elim)));refine dF hc fun r s' z=>?_
 cases r with
 | error e =>
  exact z
 | ok fl =>
  cases fl with
  | ret v =>
   obtain ⟨av,Ab,st3,i3,r3,rfl,hq⟩:=z;obtain rfl:=r3.inv;refine X2pp (hq F.N) fun v' Ap hv hQ=>?_;refine Bp (hv s' (.ref (s.heap.objs.size+1)) i3 (.loc _ _)) fun i4 y r4=>?_;have T:Step F.P noO V s Ap s':=((st.any (P:=F.P) (O:=noO)).trans (st3.wide eP)).trans y.any;refine ⟨rfl,Ap,T.mono (fun Z h=>h.elim),hs.to T i4 (fun Z h=>h),v',r4,hQ⟩
  | _=>exact z.elim
end
end
section
open PySem PyProof.Rows PySem.W PySem.Calls PySem.Spec
variable {prog:dw}{w:World}{S:Sta}
section
variable {F:Fx S}{m:Vars}{V:Store}{X:Value->ae->Prop}{Q:AV->Store->Prop}
end
end
section
variable {S:Sta}
structure Wd where
 U:Nat->Bool
 C:Addr
 M:Nat->Option Addr
noncomputable def bvL:List Value:=[.builtin "len",.builtin "isinstance",.type "int",.type "bool",.type "tuple",.type "list",.type "str",.type "dict",.type "range",.type "enumerate",.builtin "sorted",.builtin "sum",.builtin "abs",.builtin "min",.builtin "max",.builtin "all",.builtin "any"]
noncomputable def bv(i:Nat):Value:=(bvL[i]?).getD (.builtin "any")
noncomputable def isBT:Value->Bool
 | .builtin _=>true
 | .type _=>true
 | _=>false
structure Good(S:Sta)(W:Wd):Prop where
 glob:∀i,W.U i=true->Glob S i (S.cv i)
 bu:∀i,i<17->W.U i=true
 own:∀i,W.U i=true->17<=i->i≠28->Callable S (S.cv i)
 base:∀i,i<17->S.cv i=bv i
 six:∃t,S.cv 28=.int 6 t
 floor:Ea S W.C
 texts:Field S W.C "texts"
 cells:Field S W.C "own"
 meth:∀n f,W.M n=some f->∃nm,ixS AT nm=some n/\nm ≠ "texts"/\nm ≠ "own"/\gR S.K (.ref W.C) nm=some (some (.ref f))/\isFn S.K (.ref f)=true/\keepIn S.K (.ref f)=true
section
variable {W:Wd}
theorem bv_able{i:Nat}(h:i<17):Callable S (bv i):=by
 have:∀i,i<17->isBT (bv i)=true:=by decide
 have:=this i h
 revert this
 cases bv i<;>first | (intro _;exact Callable.builtin _) | (intro _;exact Callable.type _) | (intro h;cases h)
theorem Lw(G:Good S W){i:Nat}(hu:W.U i=true)(y:i≠28):Callable S (S.cv i):=by
 by_cases h:i<17
 ·rw [G.base i h]
  exact bv_able h
 ·exact G.own i hu (cO.mp h) y
noncomputable def tyCls:Nat->Option Ty
 | 2=>some .int
 | 3=>some .bool
 | 4=>some .tup
 | 5=>some .list
 | 6=>some .str
 | 7=>some .dict
 | _=>aa
theorem Hc{j:Nat}{u:Ty}(G:Good S W)(h2:tyCls j=some u):S.cv j=.type u.name/\u≠.none:=by
 match j,h2 with
 | 2,h2 | 3,h2 | 4,h2 | 5,h2 | 6,h2 | 7,h2=>rw [G.base _ (cq rfl)];cases h2;exact ⟨rfl,nofun⟩
noncomputable def fld:Nat->Str
 | 11 => "texts"
 | _ => "own"
theorem KP{n:Nat}(h:n=11\/n=12):ixS AT (fld n)=some n:=by
 rcases h with rfl | rfl<;>decide +kernel
theorem Good.field{S:Sta}(G:Good S W){n:Nat}(h:n=11\/n=12):Field S W.C (fld n):=by
 rcases h with rfl | rfl
 ·exact G.texts
 ·exact G.cells
theorem KU{fs:List (Str×AV)}{nm:Str}(h:∀p∈fs,p.1 = "texts"\/p.1 = "own")(h1:nm ≠ "texts")(h2:nm ≠ "own"):KW fs nm=aa:=by
 unfold KW;rw [Option.map_eq_none_iff,List.find?_eq_none];intro p hp e;have e:=eq_of_beq e
 rcases h p hp with q | q
 ·exact h1 (by rw [<- e,q])
 ·exact h2 (by rw [<- e,q])
end
section
variable {F:Fx S}{m:Vars}{V:Store}{X:Value->ae->Prop}{Q:AV->Store->Prop}
theorem KT.isBool{a b:Bool}{Q:Bool->Store->Prop}(h:Q (a == b) V):KT F m V .Is (.bool a) (.bool b) Q X:=by
 intro va vb s hs ra rb;obtain rfl:=ra.inv;obtain rfl:=rb.inv;exact is_bool ⟨V,Step.refl _ _ _ _,hs,_,rfl,h⟩
theorem KT.isNotBool{a b:Bool}{Q:Bool->Store->Prop}(h:Q (!(a == b)) V):KT F m V .IsNot (.bool a) (.bool b) Q X:=by
 intro va vb s hs ra rb;obtain rfl:=ra.inv;obtain rfl:=rb.inv;exact isnot_bool ⟨V,Step.refl _ _ _ _,hs,_,rfl,h⟩
theorem KT.notInStr{x y:Str}{Q:Bool->Store->Prop}(h:Q (!Txt.contains x y) V):KT F m V .NotIn (.str y) (.str x) Q X:=by
 intro va vb s hs ra rb;refine X1l va ra.inv fun Z=>?_;refine X1l vb rb.inv fun Z=>?_;exact SB.notContains ⟨V,Step.refl _ _ _ _,hs,_,rfl,h⟩
theorem CT.clear{ad:Addr}{ii:Nat}{l:List AV}(ho:V ad=some (.list l))(hz:l.length<=big)(h:Q .none (V.set ad (.list []))):CT F m V (.builtin "list.clear") [.loc ad ii] Q X:=by
 intro U s hs r;refine X1lp U r.one fun v ra=>?_;refine X3ppp (ra.lst hs.inv (BE ho)) fun y vs n Z0 e rl=>?_;subst Z0;obtain rfl:=(b4 ra.inv).symm;refine call_meets PySem.F.slot_list_clear ⟨_,e,rfl⟩ PySem.F.entry_list_clear (PySem.F.args_list_clear_1 _) (PySem.AutoSeq1.list_clear_list_0 ad vs.toArray n (by rw [aG,rl.length];exact A6 hz)) ⟨e,?_⟩
 have ms:bi (fun Z=>#[]) (AB vs.toArray n)=AB ([]:List Value).toArray (if ((#[]:Array Value).size == vs.toArray.size) then n else n+1):=by
  simp only [bi]
 have e':=bL (bi fun Z=>#[]) e (by rw [ms];rfl)
 rw [ms] at e';refine Ao (Ct (s':=s) (vs:=[]) hs ho (bq ..).extBut e' .nil) fun h1 st=>?_;exact ⟨_,st,h1,_,.none,h⟩
theorem CD{i:Int}(h:i.natAbs<=2000000):InLong i :=
 ⟨dh (by decide:-(2 ^ 63:Int)<=-2000000) (Int.neg_le_of_neg_le (dh (Int.le_natAbs (a:=-i)) (by rw [Int.natAbs_neg];exact dU.mpr h))),eO (dh Int.le_natAbs (dU.mpr h)) (by decide:(2000000:Int)<2 ^ 63)⟩
theorem CT.sum2(hq:S.hx=aa){x y:Int}(hx:x.natAbs<=1000000)(hy:y.natAbs<=1000000)(h:Q (.int (x+y)) V):CT F m V (.builtin "sum") [.tup [.int x,.int y]] Q X:=by
 intro U s hs r;refine X1lp U r.one fun v ra=>?_;refine X4lpp v (Rep.spot (k:=(x,y)) ra) fun t tx ty n e d=>?_;have hT:s.heap.IsTuple t #[.int x tx,.int y ty]:=⟨_,e,rfl,n,rfl⟩;have O:t≠s.heap.objs.size:=bK (bh e);refine call_sum_walk (wpAny_pyIter_tuple hT ⟨_,_,_,_,_,_,fun i=>if i=0 then x else y,rfl,Walks.tuple (A:=F.A.in1) (F.room.quiet hq) s.heap.objs.size t O #[.int x tx,.int y ty],⟨⟨_,aF _ rfl,rfl,rfl⟩,hT.push _⟩,?_,?_,?_,fun h' tk t' k=>?_⟩)
 ·intro b hb
  rw [cG]
  cases hb with
  | head=>exact ej _
  | tail _ hb =>
   rw [aJ.mp hb];exact cL (bh e)
 ·intro i v hv
  match i,hv with
  | 0,hv=>exact ⟨tx,(ar hv).symm⟩
  | 1,hv=>exact ⟨ty,(ar hv).symm⟩
  | i+2,hv=>cases hv
 ·intro j hj
  match j,hj with
  | 0,_=>exact ⟨CD (aB hx (by decide)),by show InLong (0+x);rw [cZ];exact CD (aB hx (by decide))⟩
  | 1,_=>exact ⟨CD (aB hy (by decide)),by show InLong (0+x+y);rw [cZ];exact CD (aB (Int.natAbs_add_le x y) (Nat.add_le_add hx hy))⟩
  | j+2,hj=>exact (d3 j (dY (dY hj))).elim
 ·refine Ao (hs.grow (h':=h') (fun b o eb=>k b o (by simp;exact bK (bh eb)) (ax _ eb)) tk) fun h1 st=>?_
  have e2:preSum (fun i=>if i=0 then x else y) 2=x+y:=by show 0+x+y=x+y;rw [cZ]
  exact ⟨V,st.any,h1,_,e2▸.int _ _,h⟩
theorem IV:Jj "clear" (Ty.name .list) "list.clear":=⟨c8,PySem.F.slot_list_clear,PySem.F.type_list_clear⟩
theorem CT.min2'(hq:S.hx=aa){a b:Int}(h:Q (.int (min a b)) V):CT F m V (.builtin "min") [.int a,.int b] Q X:=CT.min2 hq (by
 by_cases q:b<a
 ·rw [if_pos q,<- Int.min_eq_right (Int.le_of_lt q)];exact h
 ·rw [if_neg q,<- Int.min_eq_left (fw.mp q)];exact h)
theorem CT.max2'(hq:S.hx=aa){a b:Int}(h:Q (.int (max a b)) V):CT F m V (.builtin "max") [.int a,.int b] Q X:=CT.max2 hq (by
 by_cases q:b > a
 ·rw [if_pos q,<- Int.max_eq_right (Int.le_of_lt q)];exact h
 ·rw [if_neg q,<- Int.max_eq_left (fw.mp q)];exact h)
end
theorem ET.monoX{F:Fx S}{m:Vars}{V:Store}{X X':Value->ae->Prop}{e:E}{Q:AV->Store->Prop}(h:ET F m V e Q X)(k:∀e s,X e s->X' e s):ET F m V e Q X':=fun pe hc s hs=>aV (h pe hc s hs) (fun Z Z q=>q) k
theorem TT.monoX{F:Fx S}{m:Vars}{V:Store}{X X':Value->ae->Prop}{e:E}{Q:Bool->Store->Prop}(h:TT F m V e Q X)(k:∀e s,X e s->X' e s):TT F m V e Q X':=fun pe hc s hs=>aV (h pe hc s hs) (fun Z Z q=>q) k
theorem SrcT.monoX{F:Fx S}{m:Vars}{V:Store}{X X':Value->ae->Prop}{p:Pat}{e:E}{G:List AV->(Store->Store->Prop)->Store->Prop}(h:SrcT F m V p e G X)(k:∀e s,X e s->X' e s):SrcT F m V p e G X' :=
 fun pe t hc hp s hs=>aV (h pe t hc hp s hs) (fun Z Z Ad=>aV Ad (fun Z Z q=>q) k) k
theorem ET.mu{F:Fx S}{m:Vars}{V:Store}{X:Value->ae->Prop}{e:E}{l:Nat}{Q:AV->Store->Prop}(h:ET F m V e Q X):ET F m V (.mu l e) Q X:=fun pe hc s hs=>h pe hc s hs
theorem TT.mu{F:Fx S}{m:Vars}{V:Store}{X:Value->ae->Prop}{e:E}{l:Nat}{Q:Bool->Store->Prop}(h:TT F m V e Q X):TT F m V (.mu l e) Q X:=fun pe hc s hs=>h pe hc s hs
end
section
variable {S:Sta}
set_option genCtorIdx false in
inductive Slot where
 | no
 | at (a:Addr) (o:AObj)
noncomputable abbrev Slot.ctorIdx(x:Slot):Nat:=@Slot.casesOn (fun _=>Nat) x 0 (fun _ _=>1)
noncomputable abbrev LS:=List Slot
noncomputable def Av:LS->Store
 | [],_=>aa
 | .no::r,b=>Av r b
 | .at a o::r,b=>if b=a then some o else Av r b
noncomputable def okS:LS->Prop
 | []=>True
 | .no::r=>okS r
 | .at a _::r=>Av r a=aa/\okS r
noncomputable def slot(V:LS)(i:Nat):Slot:=V.getD i .no
theorem Hk{V:LS}{i:Nat}{a:Addr}{o:AObj}(h:slot V i=.at a o):.at a o∈V/\i<V.length:=by
 unfold slot at h
 by_cases q:i<V.length
 ·rw [az,aE q] at h
  exact ⟨h▸ig q,q⟩
 ·rw [az,ba (cO.mp q)] at h;cases h
theorem Fy:∀{V:LS}{b:Addr}{o:AObj},Av V b=some o->.at b o∈V
 | [],_,_,h=>by cases h
 | .no::r,b,o,h=>.tail _ (Fy (V:=r) h)
 | .at c p::r,b,o,h=>by
  unfold Av at h
  by_cases e:b=c
  ·rw [if_pos e] at h;cases h;rw [e];exact .head _
  ·rw [if_neg e] at h;exact .tail _ (Fy h)
theorem Ev:∀{V:LS}{b:Addr}{o:AObj},okS V->.at b o∈V->Av V b=some o
 | .no::r,b,o,k,h=>by
  rcases aD.mp h with q | q
  ·cases q
  ·exact Ev (V:=r) k q
 | .at c p::r,b,o,k,h=>by
  unfold Av
  rcases aD.mp h with q | q
  ·cases q;exact if_pos rfl
  ·have z:=Ev k.2 q
   by_cases e:b=c
   ·rw [e,k.1] at z;cases z
   ·rw [if_neg e];exact z
theorem Au{V:LS}{i:Nat}{a:Addr}{o:AObj}(k:okS V)(h:slot V i=.at a o):Av V a=some o:=Ev k (Hk h).1
noncomputable def Fits(V:LS)(i:Nat)(s:Slot):Prop:=∀a o,s=.at a o->Av V a=aa\/∃p,slot V i=.at a p
theorem DB:∀{V:LS}{i:Nat}{s:Slot},okS V->Fits V i s->okS (V.set i s)
 | [],_,_,_,_=>trivial
 | x::r,0,s,k,f=>by
  show okS (s::r);have kr:okS r:=by cases x with
   | no=>exact k
   | «at» c p=>exact k.2
  cases s with
  | no=>exact kr
  | «at» a o =>
   refine ⟨?_,kr⟩
   rcases f a o rfl with q | ⟨p,q⟩
   ·cases x with
    | no=>exact q
    | «at» c p' =>
     unfold Av at q
     by_cases e:a=c
     ·rw [if_pos e] at q;cases q
     ·rw [if_neg e] at q;exact q
   ·have:x=.at a p:=q
    clear f q;subst this;exact k.1
 | x::r,i+1,s,k,f=>by
  show okS (x::r.set i s);have fr:okS r->Fits r i s:=fun kr a o e=>by
   rcases f a o e with q | ⟨p,q⟩
   ·cases x with
    | no=>exact .inl q
    | «at» c p' =>
     unfold Av at q
     by_cases e:a=c
     ·rw [if_pos e] at q;cases q
     ·rw [if_neg e] at q;exact .inl q
   ·exact .inr ⟨p,q⟩
  cases x with
  | no=>exact DB (V:=r) k (fr k)
  | «at» c p =>
   refine ⟨?_,DB k.2 (fr k.2)⟩
   cases h:Av (r.set i s) c with
   | none=>rfl
   | some o =>
    rcases List.mem_or_eq_of_mem_set (Fy h) with q | q
    ·have:=Ev k.2 q;rw [k.1] at this;cases this
    ·rcases f c o q.symm with z | ⟨p',z⟩
     ·unfold Av at z;rw [if_pos rfl] at z;cases z
     ·have:slot r i=.at c p':=z
      have:=Au k.2 this;rw [k.1] at this;cases this
theorem EX{V:LS}{i:Nat}{a:Addr}{o:AObj}(k:okS V)(f:Fits V i (.at a o))(b:Addr)(p:AObj)(h:Av (V.set i (.at a o)) b=some p):((Av V).set a o) b=some p:=by
 by_cases e:b=a
 ·subst e
  rw [Store.set_self]
  by_cases q:i<V.length
  ·have:=Ev (DB k f) (List.mem_set q (.at b o));rw [h] at this;exact this.symm
  ·rw [List.set_eq_of_length_le (cO.mp q)] at h
   rcases f b o rfl with z | ⟨p',z⟩
   ·rw [h] at z;cases z
   ·exact absurd (Hk z).2 q
 ·rw [Store.set_ne _ _ e]
  rcases List.mem_or_eq_of_mem_set (Fy h) with q | q
  ·exact Ev k q
  ·cases q;exact absurd rfl e
theorem C5{V:LS}{a:Addr}(h:¬Dom (Av V) a):Av V a=aa:=cU fun q=>h q
noncomputable abbrev KV:=AV->LS->Prop
noncomputable abbrev KB:=Bool->LS->Prop
noncomputable abbrev M:=List (Option AV)
noncomputable abbrev KS:=Fl->M->LS->Prop
noncomputable abbrev XL:=Nat->LS->Prop
noncomputable abbrev CA:XL:=fun Z Z=>False
noncomputable def vr(m:M):Vars:=fun i=>m.getD i aa
noncomputable def Sub(V:LS)(s:Store):Prop:=∀b o,Av V b=some o->s b=some o
theorem Sub.rfl{V:LS}:Sub V (Av V):=fun Z Z h=>h
inductive Up{α:Type}(K:α->LS->Prop)(v:α)(s:Store):Prop
 | mk (V:LS)(e:Sub V s)(k:okS V)(h:K v V):Up K v s
inductive UpS(K:KS)(fl:Fl)(m':Vars)(s:Store):Prop
 | mk (m:M)(V:LS)(em:m'=vr m)(e:Sub V s)(k:okS V)(h:K fl m V):UpS K fl m' s
noncomputable def FA:M->Nat->AV->M
 | [],0,a=>[some a]
 | [],n+1,a=>aa::FA [] n a
 | _::r,0,a=>some a::r
 | x::r,n+1,a=>x::FA r n a
theorem HC{α:Type}{j n:Nat}{a b:α}:(if j=n then a else b)=if j+1=n+1 then a else b:=by
 by_cases e:j=n
 ·rw [if_pos e,if_pos (congrArg e9 e)]
 ·rw [if_neg e,if_neg fun z=>e (e6 z)]
theorem Fu:∀(m:M)(i:Nat)(a:AV),vr (FA m i a)=Vars.set (vr m) i a:=by
 intro m i a
 funext j
 unfold vr Vars.set
 induction m generalizing i j with
 | nil =>
  induction i generalizing j with
  | zero =>
   cases j with
   | zero=>exact (if_pos rfl).symm
   | succ j=>exact (if_neg (fE j)).symm
  | succ n ih =>
   cases j with
   | zero=>exact (if_neg (fE n).symm).symm
   | succ j=>exact (ih j).trans HC
 | cons x r ih =>
  cases i with
  | zero =>
   cases j with
   | zero=>exact (if_pos rfl).symm
   | succ j=>exact (if_neg (fE j)).symm
  | succ n =>
   cases j with
   | zero=>exact (if_neg (fE n).symm).symm
   | succ j=>exact (ih n j).trans HC
theorem Jl(avs:List AV):vr (avs.map some)=LH avs:=by
 funext i
 unfold vr LH;simp only [az,aW]
 cases avs[i]?<;>rfl
section
variable {F:Fx S}{m:Vars}{V:LS}{s:Store}{X:Value->ae->Prop}
theorem W.less{α:Type}{t:Sem α}{P:α->Store->ae->Prop}{u:ae}(hσ:Sub V s)(hs:F.St m s u)(h:F.St m (Av V) u->W F m (Av V) u t P X):W F m s u t P X:=by
 refine Ao (hs.drop hσ) fun h1 st=>?_;exact (h h1).later st.any
theorem ET.less{e:E}{Q:AV->Store->Prop}(hσ:Sub V s)(h:ET F m (Av V) e Q X):ET F m s e Q X:=fun pe hc Z ht=>W.less hσ ht fun h1=>h pe hc _ h1
theorem TT.less{e:E}{Q:Bool->Store->Prop}(hσ:Sub V s)(h:TT F m (Av V) e Q X):TT F m s e Q X:=fun pe hc Z ht=>W.less hσ ht fun h1=>h pe hc _ h1
theorem Rep.less'{u:ae}{av:AV}{v:Value}(hσ:Sub V s)(hs:F.St m s u)(r:Rep S.cv u.heap (F.D s) av v):Rep S.cv u.heap (F.D (Av V)) av v:=by
 refine Ao (hs.drop hσ) fun h1 st=>?_;exact r.st st.any h1
theorem RepL.less'{u:ae}{av:List AV}{v:List Value}(hσ:Sub V s)(hs:F.St m s u)(r:RepL S.cv u.heap (F.D s) av v):RepL S.cv u.heap (F.D (Av V)) av v:=by
 refine Ao (hs.drop hσ) fun h1 st=>?_;exact r.st st.any h1
theorem BT.less{op:hV}{a b:AV}{Q:AV->Store->Prop}(hσ:Sub V s)(h:BT F m (Av V) op a b Q X):BT F m s op a b Q X:=fun va vb u hs ra rb=>W.less hσ hs fun h1=>h va vb u h1 (ra.less' hσ hs) (rb.less' hσ hs)
theorem KT.less{op:CmpOp}{a b:AV}{Q:Bool->Store->Prop}(hσ:Sub V s)(h:KT F m (Av V) op a b Q X):KT F m s op a b Q X:=fun va vb u hs ra rb=>W.less hσ hs fun h1=>h va vb u h1 (ra.less' hσ hs) (rb.less' hσ hs)
theorem IT.less{a b:AV}{Q:AV->Store->Prop}(hσ:Sub V s)(h:IT F m (Av V) a b Q X):IT F m s a b Q X:=fun va vb u hs ra rb=>by
 refine Ao (hs.drop hσ) fun h1 st=>?_;refine X2ppp (h va vb u h1 (ra.less' hσ hs) (rb.less' hσ hs)) fun T id h2 h3 h4=>?_;exact ⟨T,id,h2,h3,h4.later st.any⟩
theorem CT.less{f:Value}{z:List AV}{Q:AV->Store->Prop}(hσ:Sub V s)(h:CT F m (Av V) f z Q X):CT F m s f z Q X:=fun va u hs ra=>W.less hσ hs fun h1=>h va u h1 (ra.less' hσ hs)
end
end
section
noncomputable def ans{α:Type}(lt:Nat->Nat->Bool):KasT α->α
 | .ret a=>a
 | .ask i j k=>ans lt (k (lt i j))
theorem CV{α β:Type}(lt:Nat->Nat->Bool)(f:α->KasT β)(t:KasT α):ans lt (t.bind f)=ans lt (f (ans lt t)):=by
 induction t with
 | ret a=>rfl
 | ask i j k ih=>exact ih (lt i j)
noncomputable def Srt(lt:Nat->Nat->Bool)(p:Array Nat)(k:Nat):Prop:=∀i j,i<j->j<k->lt (p.getD j 0) (p.getD i 0)=false
structure Ord(lt:Nat->Nat->Bool):Prop where
 trans:∀a b c,lt b a=false->lt c b=false->lt c a=false
 up:∀a b c,lt c a=true->lt b a=false->lt c b=true
 irr:∀a,lt a a=false
 asym:∀a b,lt a b=true->¬lt b a=true
theorem Srt.step{lt:Nat->Nat->Bool}(o:Ord lt){p:Array Nat}{k:Nat}(h:Srt lt p k)(hk:0<k)(q:lt (p.getD k 0) (p.getD (k - 1) 0)=false):Srt lt p (k+1):=by
 intro i j Y hj
 by_cases e:j=k
 ·clear hk hj;subst e
  by_cases e':i=j - 1
  ·rw [e'];exact q
  ·exact o.trans _ _ _ (h i (j - 1) (by exact (bx e').elim (fun z0=>lin [i,j - 1] [] (.c V0 V1) [.c V0 V1] rfl z0) (fun z0=>lin [i,j,j - 1] [] (.C 0 V0 V2) [.c V0 V1,.b V1 (.A K1 V2),.c V2 V0] rfl Y (aq.mp (ay ((j) - (1)))) z0)) (by exact lin [j - 1,j] [] (.c V0 V1) [.d (.A V0 K1) V1] rfl (an (lin [i,j] [] (.b K1 V1) [.c V0 V1] rfl Y)))) q
 ·exact h i j Y (by exact (bx e).elim (fun z0=>lin [j,k] [] (.c V0 V1) [.c V0 V1] rfl z0) (fun z0=>lin [j,k] [] (.C 0 V0 V1) [.c V0 (.A V1 K1),.c V1 V0] rfl hj z0))
theorem G7{lt:Nat->Nat->Bool}(o:Ord lt)(p:Array Nat)(f:Nat):∀n,0<n->Srt lt p n->n<=ans lt (dz p f n)/\ans lt (dz p f n)<=n+f/\Srt lt p (ans lt (dz p f n)):=by
 induction f with
 | zero=>intro n _ h;exact ⟨ay _,ay _,h⟩
 | succ f ih =>
  intro n hn h;show n<=ans lt (if lt (p.getD n 0) (p.getD (n - 1) 0)=true then .ret n else dz p f (n+1))/\ans lt (if lt (p.getD n 0) (p.getD (n - 1) 0)=true then .ret n else dz p f (n+1))<=n+(f+1)/\Srt lt p (ans lt (if lt (p.getD n 0) (p.getD (n - 1) 0)=true then .ret n else dz p f (n+1)))
  by_cases c:lt (p.getD n 0) (p.getD (n - 1) 0)=true
  ·rw [if_pos c];exact ⟨ay _,dr _ _,h⟩
  ·rw [if_neg c]
   refine Bp (ih (n+1) (gj _) (h.step o hn (cP.mpr c))) fun a b d=>?_;exact ⟨by exact lin [n,ans lt (dz p f (n+1))] [] (.b V0 V1) [.b (.A V0 K1) V1] rfl a,by exact lin [ans lt (dz p f (n+1)),n,f] [] (.b V0 (.A V1 (.A V2 K1))) [.b V0 (.A (.A V1 K1) V2)] rfl b,d⟩
theorem place_at{lt:Nat->Nat->Bool}(o:Ord lt)(p:Array Nat)(k:Nat)(hs:Srt lt p k)(f:Nat):∀l r,l<=r->r<=k->r - l<=f->(∀i,i<l->lt (p.getD k 0) (p.getD i 0)=false)->(∀i,r<=i->i<k->lt (p.getD k 0) (p.getD i 0)=true) ->
  ans lt (ij p k f l r)<=k/\(∀i,i<ans lt (ij p k f l r)->lt (p.getD k 0) (p.getD i 0)=false)/\(∀i,ans lt (ij p k f l r)<=i->i<k->lt (p.getD k 0) (p.getD i 0)=true):=by
 induction f with
 | zero =>
  intro l r h1 h2 h3 hl hr;have e:l=r:=by exact aw (lin [l,r] [] (.b V0 V1) [.b V0 V1] rfl h1) (lin [r - l,r,l] [] (.b V1 V2) [.b V0 K0,.b V1 (.A V2 V0)] rfl h3 (aq.mp (ay ((r) - (l)))))
  clear h1 h3;subst e;exact ⟨h2,hl,hr⟩
 | succ f ih =>
  intro l r h1 h2 h3 hl hr;unfold ij
  by_cases c:l >= r
  ·rw [if_pos c]
   have e:l=r:=by exact aw (lin [l,r] [] (.b V0 V1) [.b V0 V1] rfl h1) (lin [r,l] [] (.b V0 V1) [.b V0 V1] rfl c)
   clear h1 h3 c;subst e;exact ⟨h2,hl,hr⟩
  ·rw [if_neg c]
   show ans lt (if lt (p.getD k 0) (p.getD ((l+r) / 2) 0)=true then _ else _)<=k/\(∀i,i<ans lt (if lt (p.getD k 0) (p.getD ((l+r) / 2) 0)=true then _ else _)->_)/\(∀i,ans lt (if lt (p.getD k 0) (p.getD ((l+r) / 2) 0)=true then _ else _)<=i->_);have hm:l<=(l+r) / 2/\(l+r) / 2<r:=by exact ⟨lin [r,l,(l+r) / 2] [] (.B 2 V1 V2) [.i V0 V1,.c (.A V1 V0) (.M 2 (.A V2 K1))] rfl c (Nat.lt_mul_div_succ (l+r) (by decide:0<2)),lin [r,l,(l+r) / 2] [] (.C 2 V2 V0) [.i V0 V1,.b (.M 2 V2) (.A V1 V0)] rfl c (Nat.mul_div_le (l+r) 2)⟩
   generalize (l+r) / 2=m at hm
   by_cases q:lt (p.getD k 0) (p.getD m 0)=true
   ·rw [if_pos q]
    refine ih l m hm.1 (by exact lin [r,k,m] [] (.b V2 V1) [.b V0 V1,.c V2 V0] rfl h2 hm.2) (by exact lin [r - l,f,m,r,l,m - l] [] (.b V5 V1) [.b V0 (.A V1 K1),.c V2 V3,.b V3 (.A V4 V0),.d (.A V5 V4) V2] rfl h3 hm.2 (aq.mp (ay ((r) - (l)))) (an (lin [l,m] [] (.b V0 V1) [.b V0 V1] rfl hm.1))) hl fun i h4 h5=>?_
    by_cases e:i=m
    ·rw [e];exact q
    ·exact o.up _ _ _ q (hs m i (by exact (bx e).elim (fun z0=>lin [m,i] [] (.C 0 V0 V1) [.b V0 V1,.c V1 V0] rfl h4 z0) (fun z0=>lin [m,i] [] (.c V0 V1) [.c V0 V1] rfl z0)) h5)
   ·rw [if_neg q]
    have q:=cP.mpr q;refine ih (m+1) r (by exact lin [m,r] [] (.b (.A V0 K1) V1) [.c V0 V1] rfl hm.2) h2 (by exact lin [r - l,f,l,m,r,r - (m+1)] [] (.b V5 V1) [.b V0 (.A V1 K1),.b V2 V3,.b V4 (.A V2 V0),.d (.A V5 (.A V3 K1)) V4] rfl h3 hm.1 (aq.mp (ay ((r) - (l)))) (an (lin [m,r] [] (.b (.A V0 K1) V1) [.c V0 V1] rfl hm.2))) (fun i h4=>?_) hr
    by_cases e:i=m
    ·rw [e];exact q
    ·exact o.trans _ _ _ (hs i m (by exact (bx e).elim (fun z0=>lin [i,m] [] (.c V0 V1) [.c V0 V1] rfl z0) (fun z0=>lin [i,m] [] (.C 0 V0 V1) [.c V0 (.A V1 K1),.c V1 V0] rfl h4 z0)) (by exact lin [r,k,m] [] (.c V2 V1) [.b V0 V1,.c V2 V0] rfl h2 hm.2)) q
theorem D5{p:Array Nat}{k l:Nat}(hk:k<p.size)(hl:l<=k)(i:Nat):(bubble p k (k - l)).getD i 0=if i=l then p.getD k 0 else if l<i/\i<=k then p.getD (i - 1) 0 else p.getD i 0:=by
 have h:=getElem?_bubble hk (k - l) (eQ _ _) i;rw [show k - (k - l)=l by exact aw (lin [k,l,k - l,k - (k - l)] [] (.b V3 V1) [.b V0 (.A V1 V2),.d (.A V3 V2) V0] rfl (aq.mp (ay ((k) - (l)))) (an (lin [k - l,k] [] (.b V0 V1) [.b V0 V1] rfl (eQ k l)))) (lin [k,k - l,k - (k - l),l] [] (.b V3 V2) [.b V0 (.A V1 V2),.d (.A V1 V3) V0] rfl (aq.mp (ay ((k) - (k - l)))) (an (lin [l,k] [] (.b V0 V1) [.b V0 V1] rfl hl)))] at h
 rw [bo,h,bo,bo,bo]
 split
 ·rfl
 ·split<;>rfl
theorem bin_srt{lt:Nat->Nat->Bool}(o:Ord lt)(f:Nat):∀(p:Array Nat)(k:Nat),k+f<=p.size->Srt lt p k->Srt lt (ans lt (kas_bin f p k)) (k+f)/\(ans lt (kas_bin f p k)).Perm p:=by
 induction f with
 | zero=>intro p k _ h;exact ⟨h,.refl _⟩
 | succ f ih =>
  intro p k hk h;unfold kas_bin;rw [CV];refine Bp (place_at o p k h k 0 k (cI _) (ay _) (eQ _ _) (fun i hi=>absurd hi (d3 _)) (fun i hi B=>absurd B (cO.mpr hi))) fun h1 h2 h3=>?_;generalize ans lt (ij p k k 0 k)=l at h1 h2 h3;have hs:k<p.size:=by exact lin [k,f,p.size] [] (.c V0 V2) [.b (.A V0 (.A V1 K1)) V2] rfl hk
  have key:Srt lt (bubble p k (k - l)) (k+1):=by
   intro i j Y hj;rw [D5 hs h1,D5 hs h1]
   by_cases a:i=l
   ·clear h1 h2;subst a
    rw [if_pos rfl,if_neg (by exact fun z0=>lin [i,j] [] .no [.c V0 V1,.d V1 V0] rfl Y z0),if_pos (by exact ⟨lin [i,j] [] (.c V0 V1) [.c V0 V1] rfl Y,lin [j,k] [] (.b V0 V1) [.c V0 (.A V1 K1)] rfl hj⟩)]
    have:=h3 (j - 1) (by exact lin [i,j,j - 1] [] (.b V0 V2) [.c V0 V1,.b V1 (.A K1 V2)] rfl Y (aq.mp (ay ((j) - (1))))) (by exact lin [j,k,j - 1] [] (.c V2 V1) [.c V0 (.A V1 K1),.d (.A V2 K1) V0] rfl hj (an (lin [i,j] [] (.b K1 V1) [.c V0 V1] rfl Y)))
    exact cP.mpr fun q=>by have z:=o.up _ _ _ this (o.irr _);exact o.asym _ _ z q
   ·rw [if_neg a]
    by_cases b:j=l
    ·clear h1 h3 a;subst b
     rw [if_pos rfl,if_neg (by exact fun z0=>lin [i,j] [] .no [.c V0 V1,.c V1 V0] rfl Y z0.1)]
     exact h2 i (by exact lin [i,j] [] (.c V0 V1) [.c V0 V1] rfl Y)
    ·rw [if_neg b]
     by_cases c:l<i
     ·rw [if_pos (by exact ⟨lin [i,j,l] [] (.c V2 V1) [.c V0 V1,.c V2 V0] rfl Y c,lin [j,k] [] (.b V0 V1) [.c V0 (.A V1 K1)] rfl hj⟩),if_pos (by exact ⟨lin [l,i] [] (.c V0 V1) [.c V0 V1] rfl c,lin [i,j,k] [] (.b V0 V2) [.c V0 V1,.c V1 (.A V2 K1)] rfl Y hj⟩)]
      exact h (i - 1) (j - 1) (by exact lin [i,j,j - 1,i - 1] [] (.c V3 V2) [.c V0 V1,.b V1 (.A K1 V2),.d (.A V3 K1) V0] rfl Y (aq.mp (ay ((j) - (1)))) (an (lin [l,i] [] (.b K1 V1) [.c V0 V1] rfl c))) (by exact lin [j,k,j - 1] [] (.c V2 V1) [.c V0 (.A V1 K1),.d (.A V2 K1) V0] rfl hj (an (lin [i,j] [] (.b K1 V1) [.c V0 V1] rfl Y)))
     ·have ci:¬(l<i/\i<=k):=by exact fun z0=>lin [l,i] [] .no [.j V0 V1,.c V0 V1] rfl c z0.1
      rw [if_neg ci]
      by_cases d:l<j
      ·have cj:l<j/\j<=k:=by exact ⟨lin [l,j] [] (.c V0 V1) [.c V0 V1] rfl d,lin [j,k] [] (.b V0 V1) [.c V0 (.A V1 K1)] rfl hj⟩
       rw [if_pos cj];exact h i (j - 1) (by exact (bx a).elim (fun z0=>lin [l,j,j - 1,i] [] (.c V3 V2) [.c V0 V1,.b V1 (.A K1 V2),.c V3 V0] rfl d (aq.mp (ay ((j) - (1)))) z0) (fun z0=>lin [l,i,j - 1] [] (.C 0 V1 V2) [.j V0 V1,.c V0 V1] rfl c z0)) (by exact lin [j,k,j - 1] [] (.c V2 V1) [.c V0 (.A V1 K1),.d (.A V2 K1) V0] rfl hj (an (lin [i,j] [] (.b K1 V1) [.c V0 V1] rfl Y)))
      ·have cj:¬(l<j/\j<=k):=by exact fun z0=>lin [l,j] [] .no [.j V0 V1,.c V0 V1] rfl d z0.1
       rw [if_neg cj];exact h i j Y (by exact (bx a).elim (fun z0=>(bx b).elim (fun z1=>lin [l,k,j] [] (.c V2 V1) [.b V0 V1,.c V2 V0] rfl h1 z1) (fun z1=>lin [l,j,k] [] (.C 0 V1 V2) [.j V0 V1,.c V0 V1] rfl d z1)) (fun z0=>lin [i,j,l,k] [] (.C 0 V1 V3) [.c V0 V1,.j V2 V1,.c V2 V0] rfl Y d z0))
  refine Ao (ih (bubble p k (k - l)) (k+1) (by rw [bubble_size];exact lin [k,f,p.size] [] (.b (.A (.A V0 K1) V1) V2) [.b (.A V0 (.A V1 K1)) V2] rfl hk) key) fun a b=>?_
  exact ⟨by rw [show k+(f+1)=k+1+f by exact aw (lin [k,f] [] (.b (.A V0 (.A V1 K1)) (.A (.A V0 K1) V1)) [] rfl) (lin [k,f] [] (.b (.A (.A V0 K1) V1) (.A V0 (.A V1 K1))) [] rfl)];exact a,b.trans (bubble_perm _ _ _)⟩
end
section
theorem Hn{p:Array Nat}{j:Nat}(hj:j<=p.size){k:Nat}(hk:k<j):(kas_rev p 0 j).getD k 0=p.getD (j - 1 - k) 0:=by
 have h:=getElem?_mirror_all (xs:=p) (i:=0) hj k;rw [if_pos ⟨cI _,hk⟩,gl] at h;unfold kas_rev;rw [bo,h,bo]
noncomputable def Fal(lt:Nat->Nat->Bool)(p:Array Nat)(k:Nat):Prop:=∀i j,i<j->j<k->lt (p.getD i 0) (p.getD j 0)=false
theorem Fal.rev{lt:Nat->Nat->Bool}{p:Array Nat}{k:Nat}(h:Fal lt p k)(hk:k<=p.size):Srt lt (kas_rev p 0 k) k:=by
 intro i j Y hj;rw [Hn hk hj,Hn hk (Nat.lt_trans Y hj)];exact h (k - 1 - j) (k - 1 - i) (by exact lin [i,j,k - 1,k - 1 - i,k - 1 - j] [] (.c V4 V3) [.c V0 V1,.b V2 (.A V0 V3),.d (.A V4 V1) V2] rfl Y (aq.mp (ay ((k - 1) - (i)))) (an (lin [j,k,k - 1] [] (.b V0 V2) [.c V0 V1,.b V1 (.A K1 V2)] rfl hj (aq.mp (ay ((k) - (1))))))) (by exact lin [k - 1 - i,k - 1,k] [] (.c V0 V2) [.b V0 V1,.d (.A V1 K1) V2] rfl (eQ (k - 1) i) (an (lin [j,k] [] (.b K1 V1) [.c V0 V1] rfl hj)))
theorem Fal.step{lt:Nat->Nat->Bool}(o:Ord lt){p:Array Nat}{k:Nat}(h:Fal lt p k)(hk:0<k)(q:lt (p.getD k 0) (p.getD (k - 1) 0)=true):Fal lt p (k+1):=by
 have q':lt (p.getD (k - 1) 0) (p.getD k 0)=false:=cP.mpr (o.asym _ _ q);intro i j Y hj
 by_cases e:j=k
 ·clear hk q hj;subst e
  by_cases e':i=j - 1
  ·rw [e'];exact q'
  ·exact o.trans _ _ _ q' (h i (j - 1) (by exact (bx e').elim (fun z0=>lin [i,j - 1] [] (.c V0 V1) [.c V0 V1] rfl z0) (fun z0=>lin [i,j,j - 1] [] (.C 0 V0 V2) [.c V0 V1,.b V1 (.A K1 V2),.c V2 V0] rfl Y (aq.mp (ay ((j) - (1)))) z0)) (by exact lin [j - 1,j] [] (.c V0 V1) [.d (.A V0 K1) V1] rfl (an (lin [i,j] [] (.b K1 V1) [.c V0 V1] rfl Y))))
 ·exact h i j Y (by exact (bx e).elim (fun z0=>lin [j,k] [] (.c V0 V1) [.c V0 V1] rfl z0) (fun z0=>lin [j,k] [] (.C 0 V0 V1) [.c V0 (.A V1 K1),.c V1 V0] rfl hj z0))
noncomputable def Dif(lt:Nat->Nat->Bool)(p:Array Nat):Prop:=∀i j,i≠j->i<p.size->j<p.size->lt (p.getD i 0) (p.getD j 0)=true\/lt (p.getD j 0) (p.getD i 0)=true
theorem desc_fal{lt:Nat->Nat->Bool}(o:Ord lt){p:Array Nat}(d:Dif lt p)(f:Nat):∀n,0<n->n+f<=p.size->Fal lt p n->∃n',ans lt (kas_desc f p n 0)=(p,n',0)/\n<=n'/\n'<=n+f/\Fal lt p n':=by
 induction f with
 | zero=>intro n _ _ h;exact ⟨n,rfl,ay _,ay _,h⟩
 | succ f ih =>
  intro n hn hz h
  by_cases c:lt (p.getD n 0) (p.getD (n - 1) 0)=true
  ·refine X1pppp (ih (n+1) (gj _) (by exact lin [n,f,p.size] [] (.b (.A (.A V0 K1) V1) V2) [.b (.A V0 (.A V1 K1)) V2] rfl hz) (h.step o hn c)) fun n' e a b q=>?_
   refine ⟨n',?_,by exact lin [n,n'] [] (.b V0 V1) [.b (.A V0 K1) V1] rfl a,by exact lin [n',n,f] [] (.b V0 (.A V1 (.A V2 K1))) [.b V0 (.A (.A V1 K1) V2)] rfl b,q⟩
   show ans lt (if lt (p.getD n 0) (p.getD (n - 1) 0)=true then (if 0 > 0 then _ else kas_desc f p (n+1) 0) else _)=_;rw [if_pos c,if_neg (by decide)]
   exact e
  ·refine ⟨n,?_,ay _,dr _ _,h⟩
   show ans lt (if lt (p.getD n 0) (p.getD (n - 1) 0)=true then _ else KasT.ask (p.getD (n - 1) 0) (p.getD n 0) fun d=>if d=true then .ret (p,n,0) else _)=_;rw [if_neg c];show ans lt (if lt (p.getD (n - 1) 0) (p.getD n 0)=true then .ret (p,n,0) else _)=_;rw [if_pos ((d (n - 1) n (by exact fun z0=>lin [n - 1,n] [] .no [.D (-1) V0 V1,.d (.A V0 K1) V1] rfl z0 (an (lin [n] [] (.b K1 V0) [.c K0 V0] rfl hn))) (by exact lin [n,f,p.size,n - 1] [] (.c V3 V2) [.b (.A V0 (.A V1 K1)) V2,.b V3 V0] rfl hz (eQ n (1))) (by exact lin [n,f,p.size] [] (.c V0 V2) [.b (.A V0 (.A V1 K1)) V2] rfl hz)).resolve_right c)]
   rfl
theorem Lo{lt:Nat->Nat->Bool}(o:Ord lt){p:Array Nat}(d:Dif lt p)(h2:2<=p.size):1<=(ans lt (fF p.size p)).1/\(ans lt (fF p.size p)).1<=p.size/\Srt lt (ans lt (fF p.size p)).2 (ans lt (fF p.size p)).1/\(ans lt (fF p.size p)).2.Perm p:=by
 unfold fF;rw [CV];obtain ⟨a,b,c⟩:=G7 o p (p.size - 1) 1 Nat.one_pos (fun i j h1 h2=>by omega)
 by_cases e1:ans lt (dz p (p.size - 1) 1)=1
 ·rw [e1]
  have q:lt (p.getD 1 0) (p.getD 0 0)=true:=by
   refine cU fun q=>?_
   have:ans lt (dz p (p.size - 1) 1)=ans lt (dz p (p.size - 2) 2):=by
    rw [show p.size - 1=(p.size - 2)+1 by exact aw (lin [p.size,p.size - 2,p.size - 1] [] (.b V2 (.A V1 K1)) [.b V0 (.A K2 V1),.d (.A V2 K1) V0] rfl (aq.mp (ay ((p.size) - (2)))) (an (lin [p.size] [] (.b K1 V0) [.b K2 V0] rfl h2))) (lin [p.size,p.size - 1,p.size - 2] [] (.b (.A V2 K1) V1) [.b V0 (.A K1 V1),.d (.A V2 K2) V0] rfl (aq.mp (ay ((p.size) - (1)))) (an (lin [p.size] [] (.b K2 V0) [.b K2 V0] rfl h2)))]
    show ans lt (if lt (p.getD 1 0) (p.getD 0 0)=true then _ else _)=_;rw [if_neg q]
   have z:=(G7 o p (p.size - 2) 2 (by exact lin [] [] (.c K0 K2) [] rfl) (fun i j h1 h2=>by
    have e:i=0/\j=1:=by exact ⟨aw (lin [i,j] [] (.b V0 K0) [.c V0 V1,.c V1 K2] rfl h1 h2) (lin [i] [] (.b K0 V0) [] rfl),aw (lin [j] [] (.b V0 K1) [.c V0 K2] rfl h2) (lin [i,j] [] (.b K1 V1) [.c V0 V1] rfl h1)⟩
    rw [e.1,e.2];exact cP.mpr q)).1
   exact lin [ans lt (dz p (p.size - 1) 1),ans lt (dz p (p.size - 2) 2)] [] .no [.d V0 K1,.D (-1) V0 V1,.b K2 V1] rfl e1 this z
  rw [if_neg (by simp;exact fun z0=>lin [p.size] [] .no [.b K2 V0,.D (-1) K1 V0] rfl h2 z0),if_neg (by decide)]
  unfold kas_descPart;rw [CV];obtain ⟨n',e,h3,h4,fl⟩:=desc_fal o d (p.size - 2) 2 (by exact lin [] [] (.c K0 K2) [] rfl) (by exact lin [p.size - 2,p.size] [] (.b (.A K2 V0) V1) [.d (.A V0 K2) V1] rfl (an (lin [p.size] [] (.b K2 V0) [.b K2 V0] rfl h2))) (fun i j h1 h2=>by
   have e:i=0/\j=1:=by exact ⟨aw (lin [i,j] [] (.b V0 K0) [.c V0 V1,.c V1 K2] rfl h1 h2) (lin [i] [] (.b K0 V0) [] rfl),aw (lin [j] [] (.b V0 K1) [.c V0 K2] rfl h2) (lin [i,j] [] (.b K1 V1) [.c V0 V1] rfl h1)⟩
   rw [e.1,e.2];exact cP.mpr (o.asym _ _ q))
  rw [e];dsimp only;rw [if_neg (by decide)]
  unfold kas_tail3;rw [CV];refine Bp (G7 o (kas_rev p 0 n') (p.size - n') n' (by exact lin [n'] [] (.c K0 V0) [.b K2 V0] rfl h3) (fl.rev (by exact lin [n',p.size - 2,p.size] [] (.b V0 V2) [.b V0 (.A K2 V1),.d (.A V1 K2) V2] rfl h4 (an (lin [p.size] [] (.b K2 V0) [.b K2 V0] rfl h2))))) fun x y z=>?_
  exact ⟨by show 1<=ans lt (dz _ _ _);exact lin [n',ans lt (dz (kas_rev p 0 n') (p.size - n') n')] [] (.b K1 V1) [.b K2 V0,.b V0 V1] rfl h3 x,by show ans lt (dz _ _ _)<=_;exact lin [ans lt (dz (kas_rev p 0 n') (p.size - n') n'),n',p.size - n',p.size] [] (.b V0 V3) [.b V0 (.A V1 V2),.d (.A V2 V1) V3] rfl y (an (lin [n',p.size - 2,p.size] [] (.b V0 V2) [.b V0 (.A K2 V1),.d (.A V1 K2) V2] rfl h4 (an (lin [p.size] [] (.b K2 V0) [.b K2 V0] rfl h2)))),z,fP _ _ _ _⟩
 ·generalize hn:ans lt (dz p (p.size - 1) 1)=n at a b c e1
  by_cases e2:n=p.size
  ·rw [if_pos (by rw [e2];simp)]
   exact ⟨a,by show n<=_;exact lin [n,p.size] [] (.b V0 V1) [.d V0 V1] rfl e2,c,.refl _⟩
  ·rw [if_neg (by simp;exact e2),if_pos (by exact (bx e1).elim (fun z0=>lin [n] [] (.C 0 K1 V0) [.b K1 V0,.c V0 K1] rfl a z0) (fun z0=>lin [n] [] (.c K1 V0) [.c K1 V0] rfl z0))]
   show 1<=(ans lt (if lt (p.getD 0 0) (p.getD (n - 1) 0)=true then .ret (n,p) else _)).1/\(ans lt (if lt (p.getD 0 0) (p.getD (n - 1) 0)=true then .ret (n,p) else _)).1<=_/\Srt lt (ans lt (if lt (p.getD 0 0) (p.getD (n - 1) 0)=true then .ret (n,p) else _)).2 (ans lt (if lt (p.getD 0 0) (p.getD (n - 1) 0)=true then .ret (n,p) else _)).1/\(ans lt (if lt (p.getD 0 0) (p.getD (n - 1) 0)=true then .ret (n,p) else _)).2.Perm p;have hc:lt (p.getD 0 0) (p.getD (n - 1) 0)=true:=(d 0 (n - 1) (by exact fun z0=>(bx e1).elim (fun z1=>lin [n] [] .no [.b K1 V0,.c V0 K1] rfl a z1) (fun z1=>lin [n - 1,n] [] .no [.D (-1) K0 V0,.b V1 (.A K1 V0),.c K1 V1] rfl z0 (aq.mp (ay ((n) - (1)))) z1)) (by exact lin [p.size] [] (.c K0 V0) [.b K2 V0] rfl h2) (by exact lin [n,p.size - 1,p.size,n - 1] [] (.c V3 V2) [.b V0 (.A K1 V1),.d (.A V1 K1) V2,.d (.A V3 K1) V0] rfl b (an (lin [p.size] [] (.b K1 V0) [.b K2 V0] rfl h2)) (an (lin [n] [] (.b K1 V0) [.b K1 V0] rfl a)))).resolve_right fun q=>by
    have:=c 0 (n - 1) (by exact (bx e1).elim (fun z0=>lin [n,n - 1] [] (.C 0 K0 V1) [.b K1 V0,.c V0 K1] rfl a z0) (fun z0=>lin [n,n - 1] [] (.c K0 V1) [.b V0 (.A K1 V1),.c K1 V0] rfl (aq.mp (ay ((n) - (1)))) z0)) (by exact lin [n - 1,n] [] (.c V0 V1) [.d (.A V0 K1) V1] rfl (an (lin [n] [] (.b K1 V0) [.b K1 V0] rfl a)))
    rw [q] at this;cases this
   rw [if_pos hc];exact ⟨a,by show n<=_;exact lin [n,p.size - 1,p.size] [] (.b V0 V2) [.b V0 (.A K1 V1),.d (.A V1 K1) V2] rfl b (an (lin [p.size] [] (.b K1 V0) [.b K2 V0] rfl h2)),c,.refl _⟩
end
section
theorem sort_srt{lt:Nat->Nat->Bool}(o:Ord lt){n:Nat}(h2:2<=n)(d:∀i j,i≠j->i<n->j<n->lt i j=true\/lt j i=true):Srt lt (ans lt (fQ n)) n/\(ans lt (fQ n)).Perm (aA (bt n)):=by
 have hz:(aA (bt n)).size=n:=by simp
 have hg:∀i,i<n->(aA (bt n)).getD i 0=i:=fun i hi=>by
  rw [bo];simp [hi]
 have dd:Dif lt (aA (bt n)):=fun i j Y hi hj=>by
  rw [hz] at hi hj;rw [hg i hi,hg j hj];exact d i j Y hi hj
 have k:=Lo o dd (by rw [hz];exact h2)
 rw [hz] at k;unfold fQ;rw [CV];generalize ans lt (fF n (aA (bt n)))=r at k;obtain ⟨m,p⟩:=r;refine B0 k fun a b c e=>?_;dsimp only at a b c e ⊢;have hp:p.size=n:=by rw [e.size_eq,hz]
 by_cases q:m<n
 ·rw [if_pos q,show max m 1=m by exact aw (lin [max m 1,m] [] (.b V0 V1) [.d V0 V1] rfl (Nat.max_eq_left (lin [m] [] (.b K1 V0) [.b K1 V0] rfl a))) (lin [m,max m 1] [] (.b V0 V1) [.b V0 V1] rfl (Nat.le_max_left m (1)))]
  refine Ao (bin_srt o (n - m) p m (by exact lin [p.size,n,n - m,m] [] (.b (.A V3 V2) V0) [.D (-1) V0 V1,.d (.A V2 V3) V1] rfl hp (an (lin [m,n] [] (.b V0 V1) [.c V0 V1] rfl q))) c) fun x y=>?_
  exact ⟨by rw [show m+(n - m)=n by exact aw (lin [n - m,m,n] [] (.b (.A V1 V0) V2) [.d (.A V0 V1) V2] rfl (an (lin [m,n] [] (.b V0 V1) [.c V0 V1] rfl q))) (lin [n,m,n - m] [] (.b V0 (.A V1 V2)) [.b V0 (.A V1 V2)] rfl (aq.mp (ay ((n) - (m)))))] at x;exact x,y.trans e⟩
 ·rw [if_neg q]
  have:m=n:=by exact aw (lin [m,n] [] (.b V0 V1) [.b V0 V1] rfl b) (lin [m,n] [] (.b V1 V0) [.j V0 V1] rfl q)
  clear h2 d hz hg dd k b hp q;subst this;exact ⟨c,e⟩
end
section
open PySem PySem.W PySem.Calls PyProof.Rows
section
variable {prog:dw}{w:World}{A:cz}{E:Value->ae->Prop}{s:ae}{kS D:Addr}{ks:List Value}
theorem JA{st:SortSt}{e e1:Nat}{out:List Value}{P:gq->ae->Prop}(hk:s.heap.get? kS=some (ca "list" (aA ks) e))(hd:s.heap.get? D=some (ca "list" #[] e1))(d:D≠kS)
  (U:(arrOf st).map (·.2)=aA out) (hz:out.length<64) (B:ks.length<64) (hf:failedOf st=none)
  (h:∀h' c,(∀b o,b≠kS->b≠D->s.heap.get? b=some o->h'.get? b=some o)->(∃c',h'.get? kS=some (ca "list" #[] c'))->h'.get? D=some (ca "list" (aA out) c)->P (.done (.ret .none)) { s with heap:=h' }):wpAny (model prog w) A (ksk_tail D false e1 (.ref kS) st) P E s:=by
 have s1:=bq s.heap kS (bi fun Z=>(#[]:Array Value));obtain ⟨ck,hck⟩:∃ck,(s.heap.update kS (bi fun Z=>(#[]:Array Value))).get? kS=some (ca "list" #[] ck):=⟨_,f6 hk fun Z=>#[]⟩;have nd:=s1.extBut D _ d hd;have s2:=bq (s.heap.update kS (bi fun Z=>(#[]:Array Value))) D (bi fun Z=>aA out);obtain ⟨c2,hc2⟩:∃c2,((s.heap.update kS (bi fun Z=>(#[]:Array Value))).update D (bi fun Z=>aA out)).get? D=some (ca "list" (aA out) c2):=⟨_,f6 nd fun Z=>aA out⟩;have T:(aA out).size=out.length:=aG;unfold ksk_tail
 try dsimp only
 rw [U];refine ac (gS hk rfl ?_ (by rw [aG,dR];exact lin [ks.length] [] (.b V0 A3) [.c V0 K64] rfl B) (cI _))
 refine ac (wpAny_letGo ?_);refine ac (seqEpoch_at nd rfl ?_);refine ac (gS nd rfl ?_ (cI _) (aB (ew T) (by rw [dR];exact lin [out.length] [] (.b V0 (.A A3 K1)) [.c V0 K64] rfl hz)))
 rw [hf];simp only [bne_self_eq_false,bT,if_false];exact ag (h _ c2 (fun b o b1 b2 e=>s2.extBut b o b2 (s1.extBut b o b1 e)) ⟨ck,s2.extBut _ _ (fJ d) hck⟩ hc2)
noncomputable def SkFin(kS D:Addr)(ks vs:List Value)(e e1:Nat)(P:gq->ae->Prop)(p:Array Nat)(s:ae):Prop :=
 s.heap.get? kS=some (ca "list" (aA ks) e)/\s.heap.get? D=some (ca "list" #[] e1)/\∀h' c,(∀b o,b≠kS->b≠D->s.heap.get? b=some o->h'.get? b=some o)->(∃c',h'.get? kS=some (ca "list" #[] c')) ->
  h'.get? D=some (ca "list" (aA (p.toList.map fun i=>vs.getD i cH)) c)->P (.done (.ret .none)) { s with heap:=h' }
noncomputable def Ha(prog:dw)(w:World)(A:cz)(kS D:Addr)(ks vs:List Value)(e e1:Nat)(P:gq->ae->Prop)(s:ae):Prop :=
 if vs.length<2 then SkFin kS D ks vs e e1 P (bt vs.length).toArray s else wpAny (model prog w) A (keyKind' (aA ks)) (fun κ s'=>(fQ vs.length).kasWp (kas_ask prog w A κ ks) (SkFin kS D ks vs e e1 P) s') (fun Z Z=>False) s
theorem sk_end{vs:List Value}{e e1:Nat}{P:gq->ae->Prop}(T:D≠kS)(hl:ks.length=vs.length)(u:vs.length<64)
  (h:Ha prog w A kS D ks vs e e1 P s) :
  wpAny (model prog w) A (ksk_end D false vs.toArray e1 (.ref kS) (aA ks)) P E s:=by
 unfold Ha at h
 by_cases h2:vs.length<2
 ·rw [if_pos h2] at h
  have U:vs.toArray.size<2:=by rw [aG];exact h2
  unfold ksk_end
  try dsimp only
  simp only [bT,if_false];rw [if_pos U,if_pos U];refine ac (ag ?_);refine ac (ag ?_)
  try dsimp only
  refine Bp h fun f1 f2 f3=>?_;refine JA f1 f2 T ?_ (by simp;exact lin [vs.length] [] (.c V0 K64) [.c V0 K64] rfl u) (by exact lin [ks.length,vs.length] [] (.c V0 K64) [.d V0 V1,.c V1 K64] rfl hl u) rfl f3
  have e1:(((aA ks).zip (aA vs)).map (·.2)).toList=vs:=by
   rw [Array.toList_map,Array.toList_zip];exact List.map_snd_zip (ew hl.symm)
  have e2:((bt vs.length).map fun i=>vs.getD i cH)=vs:=by
   apply d7;intro i
   by_cases z:i<vs.length
   ·simp [z]
   ·simp [z]
  rw [List.toList_toArray,e2];exact (congrArg aA e1)
 rw [if_neg h2] at h;have h2:2<=vs.length:=cO.mp h2;have U:¬vs.toArray.size<2:=by rw [aG];exact lin [vs.length] [] (.j V0 K2) [.b K2 V0] rfl h2
 unfold ksk_end
 try dsimp only
 simp only [bT,if_false];rw [if_neg U,if_neg U];refine ac (aV h (fun κ s0 hk=>?_) fun Z Z x=>x.elim)
 refine ac (aV (kat_run (ks:=ks) (vs:=vs) (Q:=fun Y s'=>∃p:Array Nat,p.size=vs.length/\arrOf Y=p.map (kas_item ((aA ks).zip (aA vs)))/\failedOf Y=none/\SkFin kS D ks vs e e1 P p s')
  hl h2 u (fun p' Y s' a1 a2 a3 a4=>⟨p',a1,a2,a3,a4⟩) hk) ?_ fun Z Z x=>x)
 intro O s' B;obtain ⟨⟨⟩,Y⟩:=O;refine X1pppppp B fun p hp y hf f1 f2 f3=>?_
 try dsimp only
 exact JA f1 f2 T (kat_snds hl y) (by rw [aj,ge,hp];exact u) (by exact lin [ks.length,vs.length] [] (.c V0 K64) [.d V0 V1,.c V1 K64] rfl hl u) hf f3
noncomputable def SkKeys(prog:dw)(w:World)(A:cz)(kS:Addr)(f:Value)(Fin:List Value->Nat->ae->Prop):List Value->List Value->Nat->ae->Prop
 | [],ks,e,s=>Fin ks e s
 | v::r,ks,e,s=>wpAny (model prog w) A (call f [v]) (fun k s'=>s'.heap.get? kS=some (ca "list" (aA ks) e)/\∀h' c,di kS s'.heap h'->h'.get? kS=some (ca "list" (aA (ks++[k])) c)->SkKeys prog w A kS f Fin r (ks++[k]) c { s' with heap:=h' }) (fun Z Z=>False) s
theorem sk_fold{f:Value}{Fin:List Value->Nat->ae->Prop}{n:Nat}{body:Value->PUnit->Sem (ForInStep PUnit)}(hn:n<64)
  (hb:∀x ks e (s:ae) (C:Value->Nat->ae->Prop),bR ks<64->wpAny (model prog w) A (call f [x]) (fun k s'=>s'.heap.get? kS=some (ca "list" (aA ks) e)/\∀h' c,di kS s'.heap h'->h'.get? kS=some (ca "list" (aA (ks++[k])) c)->C k c { s' with heap:=h' }) (fun Z Z=>False) s ->
   wpAny (model prog w) A (body x ⟨⟩) (fun r s'=>r=.yield ⟨⟩/\∃k c,s'.heap.get? kS=some (ca "list" (aA (ks++[k])) c)/\C k c s') E s) (r:List Value):∀(ks:List Value)(e:Nat)(s:ae),ks.length+r.length=n ->
   s.heap.get? kS=some (ca "list" (aA ks) e)->SkKeys prog w A kS f Fin r ks e s ->
   wpAny (model prog w) A (forIn r PUnit.unit body) (fun Z s'=>∃ks e,s'.heap.get? kS=some (ca "list" (aA ks) e)/\ks.length=n/\Fin ks e s') E s:=by
 induction r with
 | nil =>
  intro ks e s hl hk h;rw [List.forIn_nil];exact ag ⟨ks,e,hk,by simpa using hl,h⟩
 | cons x r ih =>
  intro ks e s hl hk h;rw [aL] at hl;rw [d0];refine ac (aV (hb x ks e s (fun k c s'=>SkKeys prog w A kS f Fin r (ks++[k]) c s') (by exact lin [n,ks.length,r.length] [] (.c V1 K64) [.c V0 K64,.d (.A V1 (.A V2 K1)) V0] rfl hn hl) h) (fun q s' hq=>?_) fun Z Z x=>x)
  refine X0lp q hq fun Z0=>?_;refine X2pp Z0 fun k c z h2=>?_;show wpAny (model prog w) A (forIn r PUnit.unit body) _ E s';exact ih (ks++[k]) c s' (by rw [ao,bW];exact aw (lin [ks.length,r.length,n] [] (.b (.A (.A V0 K1) V1) V2) [.d (.A V0 (.A V1 K1)) V2] rfl hl) (lin [ks.length,r.length,n] [] (.b V2 (.A (.A V0 K1) V1)) [.D (-1) (.A V0 (.A V1 K1)) V2] rfl hl)) z h2
theorem sk_rest{vs:List Value}{f:Value}{e1:Nat}{P:gq->ae->Prop}(d:D≠kS)(hk:s.heap.get? kS=some (ca "list" #[] 0))(u:vs.length<64)
  (h:SkKeys prog w A kS f (fun ks e s'=>Ha prog w A kS D ks vs e e1 P s') vs [] 0 s) :
  wpAny (model prog w) A (ksk_rest D f false vs.toArray e1 (.ref kS)) P E s:=by
 unfold ksk_rest;refine ac (fA ?_)
 first
  | rw [List.forIn_toArray]
  | (rw [<- gw];simp only [List.toList_toArray])
  | rw [<- gw]
 refine ac (aV (sk_fold (kS:=kS) u (fun x ks e s' C hz hx=>?_) vs [] 0 s (by simp) hk h) (fun Z s' hd=>?_) fun Z Z x=>x)
 ·refine ac (gQ (aV hx (fun k B hk=>?_) fun Z Z hF=>hF.elim))
  refine Ao hk fun nk c=>?_;have s1:=bq B.heap kS (bi (·.push k));have ea:(aA ks).push k=aA (ks++[k]):=by simp
  obtain ⟨c2,hc2⟩:∃c2,(B.heap.update kS (bi (·.push k))).get? kS=some (ca "list" (aA (ks++[k])) c2):=⟨_,by rw [<- ea];exact f6 nk (·.push k)⟩
  try dsimp only
  refine ac (gS nk rfl ?_ (by rw [aG,dR];exact lin [ks.length] [] (.b V0 A3) [.c V0 K64] rfl hz) (aB (ew (Array.size_push ..)) (by rw [aG,dR];exact lin [ks.length] [] (.b (.A V0 K1) (.A A3 K1)) [.c V0 K64] rfl hz)))
  exact ag ⟨rfl,k,c2,hc2,c _ c2 s1.extBut hc2⟩
 ·refine X2ppp hd fun ks e z hl T=>?_
  try dsimp only
  refine ac (listItems_at z rfl ?_);exact sk_end d hl u T
theorem sk_keyed{vs:List Value}{f:Value}{n:Nat}{P:gq->ae->Prop}(ho:s.heap.get? D=some (ca "list" vs.toArray n))(u:vs.length<64)
  (h:∀kS e1 h',D≠kS->s.heap.get? kS=none->di D s.heap h'->h'.get? D=some (ca "list" #[] e1)->h'.get? kS=some (ca "list" #[] 0) ->
   SkKeys prog w A kS f (fun ks e s'=>Ha prog w A kS D ks vs e e1 P s') vs [] 0 { s with heap:=h' }) :
  wpAny (model prog w) A (ksk_tree D f false) P E s:=by
 have ha:D<s.heap.objs.size:=bh ho;have s1:=bq s.heap D (bi fun Z=>(#[]:Array Value));obtain ⟨e1,ho1⟩:∃e1,(s.heap.update D (bi fun Z=>(#[]:Array Value))).get? D=some (ca "list" #[] e1):=⟨_,f6 ho fun Z=>#[]⟩;have U:((s.heap.update D (bi fun Z=>(#[]:Array Value))).push (ca "tuple" vs.toArray 0)).objs.size=s.heap.objs.size+1:=by rw [size_push',Heap.size_update]
 have hn:D≠((s.heap.update D (bi fun Z=>(#[]:Array Value))).push (ca "tuple" vs.toArray 0)).objs.size:=by rw [U];exact bK (cL ha)
 unfold ksk_tree;refine ac (listItems_at ho rfl ?_);refine ac (gS ho rfl ?_ (by rw [aG,dR];exact lin [vs.length] [] (.b V0 A3) [.c V0 K64] rfl u) (cI _))
 refine ac (seqEpoch_at ho1 rfl ?_);refine ac (wpAny_newTuple ?_ (by show vs.length<=_;rw [dR];exact lin [vs.length] [] (.b V0 A3) [.c V0 K64] rfl u))
 refine ac (wpAny_newList ?_ (cI _));refine bA ?_;refine sk_rest (s:={ s with heap:=((s.heap.update D (bi fun Z=>(#[]:Array Value))).push (ca "tuple" vs.toArray 0)).push (ca "list" #[] 0) }) (kS:=((s.heap.update D (bi fun Z=>(#[]:Array Value))).push (ca "tuple" vs.toArray 0)).objs.size)
  hn (aF _ rfl) u (h _ e1 _ hn (Heap.get?_none_of_le (by rw [U];exact fO _)) (fun b o hb e=>ax _ (ax _ (s1.extBut b o hb e))) (ax _ (ax _ ho1)) (aF _ rfl))
end
end
section
open PySem PySem.W PySem.Calls PyProof.Rows
section
variable {prog:dw}{w:World}{A:cz}{E:Value->ae->Prop}{s:ae}{kS D:Addr}{ks:List Value}
theorem SkFin.mono{vs:List Value}{e e1:Nat}{P P':gq->ae->Prop}{p:Array Nat}(h:SkFin kS D ks vs e e1 P p s)(k:∀s,P (.done (.ret .none)) s->P' (.done (.ret .none)) s):SkFin kS D ks vs e e1 P' p s :=
 ⟨h.1,h.2.1,fun h' c a b d=>k _ (h.2.2 h' c a b d)⟩
theorem SkKeys.mono{f:Value}{Fin O:List Value->Nat->ae->Prop}(r:List Value):∀{ks:List Value}{e:Nat}{s:ae},SkKeys prog w A kS f Fin r ks e s ->
  (∀d e' s',d.length=ks.length+r.length->Fin d e' s'->O d e' s')->SkKeys prog w A kS f O r ks e s:=by
 induction r with
 | nil=>intro ks e s h hf;exact hf ks e s rfl h
 | cons v r ih =>
  intro ks e s h hf;refine aV h (fun k s' hk=>⟨hk.1,fun h' c a b=>ih (hk.2 h' c a b) fun d e' B hl=>hf d e' B ?_⟩) fun Z Z x=>x;rw [hl,ao,bW,aL];exact aw (lin [ks.length,r.length] [] (.b (.A (.A V0 K1) V1) (.A V0 (.A V1 K1))) [] rfl) (lin [ks.length,r.length] [] (.b (.A V0 (.A V1 K1)) (.A (.A V0 K1) V1)) [] rfl)
theorem JB{l:Addr}{vs:List Value}{f:Value}{Q:Value->ae->Prop}(hl:s.heap.IsList l vs.toArray)(d:vs.length<64)(ht:∀x,dy.«list.sort» ⟨[.ref x],[(bX "key",f)]⟩=ksk_tree x f false)
  (h:∀D kS e1 h',D≠kS->s.heap.get? D=none->s.heap.get? kS=none->(∀b o,s.heap.get? b=some o->h'.get? b=some o)->h'.get? D=some (ca "list" #[] e1)->h'.get? kS=some (ca "list" #[] 0) ->
   SkKeys prog w A.in1.in1 kS f (fun ks e s'=>Ha prog w A.in1.in1 kS D ks vs e e1 (fun Z s4=>Q (.ref D) s4) s') vs [] 0 { s with heap:=h' }) :
  wpAny (model prog w) A (call (.builtin "sorted") [.ref l] [(bX "key",f)]) Q E s:=by
 refine call_function_entry_kw kind_sorted plain_sorted entry_sorted (ksk_s1 _ _) ?_;unfold dy.«sorted»;refine ac (m:=checkCount "sorted" 1 1 _) (ag ?_);refine ac (collect_list hl ?_ (by rw [dR];exact lin [vs.length] [] (.b V0 A3) [.c V0 K64] rfl d))
 refine ac (wpAny_newList ?_ (by rw [dR];exact lin [vs.length] [] (.b V0 A3) [.c V0 K64] rfl d))
 have T:((s.heap.push (ca "list" #[] 0)).update s.heap.objs.size (bi (·++vs.toArray))).objs.size=s.heap.objs.size+1:=by
  rw [Heap.size_update,size_push']
 have z:(((s.heap.push (ca "list" #[] 0)).update s.heap.objs.size (bi (·++vs.toArray))).push (ca "list" vs.toArray 0)).get? (s.heap.objs.size+1)=some (ca "list" vs.toArray 0):=by
  rw [<- T];exact aF _ rfl
 have U:∀b o,s.heap.get? b=some o->(((s.heap.push (ca "list" #[] 0)).update s.heap.objs.size (bi (·++vs.toArray))).push (ca "list" vs.toArray 0)).get? b=some o:=fun b o q=>by
  have u:b<s.heap.objs.size:=bh q;rw [Heap.get?_push_ne _ _ _ (by rw [T];exact bK (cL u)),Heap.get?_update_ne _ _ _ _ (bK u),Heap.get?_push_ne _ _ _ (bK u)]
  exact q
 show wpAny _ _ _ _ _ { s with heap:=((s.heap.push (ca "list" #[] 0)).update s.heap.objs.size (bi (·++vs.toArray))).push (ca "list" vs.toArray 0) }
 rw [T];refine ac (bA (wpAny_call_entry_kw slot_list_sort ⟨_,z,rfl⟩ entry_list_sort ?body (ksk_l1 _ _)))
 case body =>
  show wpAny (model prog w) A.in1.in1 (dy.«list.sort» ⟨[.ref (s.heap.objs.size+1)],[(bX "key",f)]⟩) _ _ _;rw [ht];refine sk_keyed (s:={ s with heap:=((s.heap.push (ca "list" #[] 0)).update s.heap.objs.size (bi (·++vs.toArray))).push (ca "list" vs.toArray 0) }) z d fun kS e1 h' a1 a2 a3 a4 a5=>?_
  have nD:s.heap.get? (s.heap.objs.size+1)=none:=Heap.get?_none_of_le (fO _);have nK:s.heap.get? kS=none:=by
   cases q:s.heap.get? kS with
   | none=>rfl
   | some o=>rw [U _ _ q] at a2;cases a2
  refine SkKeys.mono vs (h _ kS e1 h' a1 nD nK (fun b o q=>a3 b o (fun e=>by rw [e,nD] at q;cases q) (U b o q)) a4 a5) fun ks e s' Y hd=>?_
  have O:ks.length=vs.length:=by simpa using Y
  unfold Ha at hd ⊢
  by_cases hz:vs.length<2
  ·rw [if_pos hz] at hd ⊢
   exact hd.mono fun s4 hq=>⟨_,rfl,ag ⟨_,rfl,hq⟩⟩
  rw [if_neg hz] at hd ⊢;refine aV hd (fun κ B hk=>?_) fun Z Z x=>x;rw [kat_ask_eq (vs:=vs) O] at hk ⊢;exact kas_wp_mono hk fun p s3 y=>y.mono fun s4 hq=>⟨_,rfl,ag ⟨_,rfl,hq⟩⟩
end
end
section
open PySem PySem.W PySem.Calls PyProof.Rows
section
variable {prog:dw}{w:World}{A:cz}{E:Value->ae->Prop}{s:ae}
theorem IR{a b:Int}{t u:Tok}{Q:Bool->ae->Prop}(h:Q (decide (a<b)) s):wpAny (model prog w) A (oneLt' false (.int a t) (.int b u)) Q E s:=by
 rw [oneLt'_eq];simp only [bT,if_false];refine ac (lt_int ?_);exact cr h
noncomputable def AL(p q:Int×Int):Bool:=if p.1=q.1 then decide (p.2<q.2) else decide (p.1<q.1)
theorem pair_lt{x y:Addr}{p q:Int×Int}{t u t' u':Tok}{n k:Nat}{Q:Bool->ae->Prop}(hx:s.heap.get? x=some { cls:=.type "tuple",data:=.seq #[.int p.1 t,.int p.2 u] n })(hy:s.heap.get? y=some { cls:=.type "tuple",data:=.seq #[.int q.1 t',.int q.2 u'] k })
  (h:Q (AL p q) s):wpAny (model prog w) A (keyLt' (tuples' true) (.ref x) (.ref y)) Q E s:=by
 refine kat_lt hx rfl hy rfl ?_;refine kat_cons (ez ?_);unfold AL at h
 by_cases e:p.1=q.1
 ·rw [if_pos e] at h
  rw [show (p.1 == q.1)=true from beq_iff_eq.mpr e]
  refine kat_yes (kat_cons (ez ?_))
  by_cases e2:p.2=q.2
  ·rw [show (p.2 == q.2)=true from beq_iff_eq.mpr e2]
   refine kat_yes (kat_nil ?_);rw [e2] at h
   have:decide (q.2<q.2)=false:=decide_eq_false (Int.lt_irrefl _)
   rw [this] at h;exact h
  ·rw [show (p.2 == q.2)=false from beq_eq_false_iff_ne.mpr e2]
   exact kat_no (IR h)
 ·rw [if_neg e] at h
  rw [show (p.1 == q.1)=false from beq_eq_false_iff_ne.mpr e]
  exact kat_no (oneLt_int h)
theorem pairLt_iff{p q:Int×Int}:AL p q=true↔(p.1<q.1\/(p.1=q.1/\p.2<q.2)):=by
 unfold AL
 by_cases e:p.1=q.1
 ·rw [if_pos e,decide_eq_true_eq];exact ⟨fun h=>.inr ⟨e,h⟩,fun h=>h.elim (fun h=>(Int.ne_of_lt h e).elim) (·.2)⟩
 ·rw [if_neg e,decide_eq_true_eq];exact ⟨.inl,fun h=>h.elim id fun h=>(e h.1).elim⟩
theorem B6{p q:Int×Int}(h:AL p q=false):q.1<=p.1/\(p.1=q.1->q.2<=p.2) :=
 have z:=fun y=>cP.mp h (pairLt_iff.mpr y)
 ⟨fw.mp fun y=>z (.inl y),fun e=>fw.mp fun y=>z (.inr ⟨e,y⟩)⟩
theorem IP(k:Nat->Int×Int):Ord fun i j=>AL (k i) (k j) where
 trans:=fun a b c h1 h2=>by
  refine Ao (B6 h1) fun a1 a2=>?_;refine Ao (B6 h2) fun b1 b2=>?_;refine cP.mpr fun h3=>?_
  rcases pairLt_iff.mp h3 with c1 | ⟨c1,c2⟩
  ·exact lin [] [(k a).fst,(k b).fst,(k c).fst] .no [.f V0 V1,.f V1 V2,.g V2 V0] rfl a1 b1 c1
  ·have a3:=a2 (by exact ah (lin [] [(k b).fst,(k c).fst,(k a).fst] (.f V0 V2) [.f V0 V1,.h V1 V2] rfl b1 c1) (lin [] [(k a).fst,(k b).fst] (.f V0 V1) [.f V0 V1] rfl a1))
   have b3:=b2 (by exact ah (lin [] [(k a).fst,(k b).fst,(k c).fst] (.f V2 V1) [.f V0 V1,.h V2 V0] rfl a1 c1) (lin [] [(k b).fst,(k c).fst] (.f V0 V1) [.f V0 V1] rfl b1))
   exact lin [] [(k c).snd,(k a).snd,(k b).snd] .no [.g V0 V1,.f V1 V2,.f V2 V0] rfl c2 a3 b3
 up:=fun a b c h1 h2=>by
  refine Ao (B6 h2) fun a1 a2=>?_;refine Bool.not_eq_false _▸fun h3=>?_;refine Ao (B6 h3) fun b1 b2=>?_
  rcases pairLt_iff.mp h1 with c1 | ⟨c1,c2⟩
  ·exact lin [] [(k a).fst,(k b).fst,(k c).fst] .no [.f V0 V1,.f V1 V2,.g V2 V0] rfl a1 b1 c1
  ·have a3:=a2 (by exact ah (lin [] [(k b).fst,(k c).fst,(k a).fst] (.f V0 V2) [.f V0 V1,.h V1 V2] rfl b1 c1) (lin [] [(k a).fst,(k b).fst] (.f V0 V1) [.f V0 V1] rfl a1))
   have b3:=b2 (by exact ah (lin [] [(k a).fst,(k b).fst,(k c).fst] (.f V2 V1) [.f V0 V1,.h V2 V0] rfl a1 c1) (lin [] [(k b).fst,(k c).fst] (.f V0 V1) [.f V0 V1] rfl b1))
   exact lin [] [(k c).snd,(k a).snd,(k b).snd] .no [.g V0 V1,.f V1 V2,.f V2 V0] rfl c2 a3 b3
 irr:=fun a=>by unfold AL;rw [if_pos rfl];exact decide_eq_false (Int.lt_irrefl _)
 asym:=fun a b h1 h2=>by
  rcases pairLt_iff.mp h1 with c1 | ⟨c1,c2⟩
  ·rcases pairLt_iff.mp h2 with d1 | ⟨d1,d2⟩
   ·exact lin [] [(k a).fst,(k b).fst] .no [.g V0 V1,.g V1 V0] rfl c1 d1
   ·exact lin [] [(k a).fst,(k b).fst] .no [.g V0 V1,.h V1 V0] rfl c1 d1
  ·rcases pairLt_iff.mp h2 with d1 | ⟨d1,d2⟩
   ·exact lin [] [(k a).fst,(k b).fst] .no [.h V0 V1,.g V1 V0] rfl c1 d1
   ·exact lin [] [(k a).snd,(k b).snd] .no [.g V0 V1,.g V1 V0] rfl c2 d2
end
end
section
open PySem PySem.W PySem.Calls PyProof.Rows
section
variable {prog:dw}{w:World}{A:cz}{E:Value->ae->Prop}{s:ae}
noncomputable def IsPr(h:Heap)(v:Value)(p:Int×Int):Prop:=∃a t u n,v=.ref a/\h.get? a=some { cls:=.type "tuple",data:=.seq #[.int p.1 t,.int p.2 u] n }
theorem IL{h:Heap}(ks:List Value)(hk:∀v∈ks,∃p,IsPr h v p):∃fs,KatTups h ks fs/\fs.length=ks.length/\∀v∈fs,∃i t,v=.int i t:=by
 induction ks with
 | nil=>exact ⟨[],.nil,rfl,fun v hv=>absurd hv bn⟩
 | cons v ks ih =>
  refine X5lp v (hk _ (.head _)) fun p a t u n e=>?_;refine X1ppp (ih fun v hv=>hk v (.tail _ hv)) fun fs h1 h2 h3=>?_;exact ⟨.int p.1 t::fs,KatTups.cons e rfl rfl rfl h1,congrArg e9 h2,fun v hv=>(aD.mp hv).elim (fun q=>⟨_,_,q⟩) (h3 v)⟩
theorem IM{ks:List Value}{Q:SortKind->ae->Prop}(hk:∀v∈ks,∃p,IsPr s.heap v p)(d:0<ks.length)(h:Q (tuples' true) s):wpAny (model prog w) A (keyKind' ks.toArray) Q E s:=by
 refine X1ppp (IL ks hk) fun fs h1 h2 h3=>?_;refine kat_kind (T:=.type "int") h1 (by exact lin [ks.length,fs.length] [] (.c K0 V1) [.c K0 V0,.D (-1) V1 V0] rfl d h2) (fun v hv=>?_) rfl h
 refine X2l v (h3 v hv) fun i t=>?_;exact .now
end
end
section
open PySem PySem.W PySem.Calls PyProof.Rows
noncomputable def AR{α:Type}(n:Nat)(R:α->Prop):KasT α->Prop
 | .ret a=>R a
 | .ask i j k=>i<n/\j<n/\∀b,AR n R (k b)
theorem AR.bind{α β:Type}{n:Nat}{R:α->Prop}{R':β->Prop}{f:α->KasT β}(t:KasT α)(h:AR n R t)(hf:∀a,R a->AR n R' (f a)):AR n R' (t.bind f):=by
 induction t with
 | ret a=>exact hf a h
 | ask i j k ih=>exact ⟨h.1,h.2.1,fun b=>ih b (h.2.2 b)⟩
noncomputable def AllLt(n:Nat)(p:Array Nat):Prop:=∀k,p.getD k 0<n
theorem AllLt.perm{n:Nat}{p q:Array Nat}(hn:0<n)(h:AllLt n p)(e:q.Perm p):AllLt n q:=fun k=>by
 rw [bo]
 cases g:q[k]? with
 | none=>exact hn
 | some x =>
  have hx:x∈q:=Array.mem_of_getElem? g;have hp:x∈p:=e.mem_iff.mp hx;obtain ⟨i,hi,rfl⟩:=Array.mem_iff_getElem.mp hp
  have:=h i
  rw [bo,Array.getElem?_eq_getElem hi] at this;exact this
theorem ar_asc{n:Nat}{p:Array Nat}(h:AllLt n p)(f:Nat):∀m,AR n (fun Z=>True) (dz p f m):=by
 induction f with
 | zero=>intro m;exact trivial
 | succ f ih =>
  intro m;refine ⟨h _,h _,fun b=>?_⟩
  cases b
  ·exact ih (m+1)
  ·exact trivial
theorem ar_desc{n:Nat}(hn:0<n)(f:Nat):∀(p:Array Nat)(m q:Nat),AllLt n p->AR n (fun r=>AllLt n r.1) (kas_desc f p m q):=by
 induction f with
 | zero=>intro p m q h;exact h
 | succ f ih =>
  intro p m q h;refine ⟨h _,h _,fun b=>?_⟩
  cases b
  ·refine ⟨h _,h _,fun b=>?_⟩
   cases b
   ·exact ih p (m+1) (q+1) h
   ·exact h
  ·show AR n _ (if q > 0 then _ else _)
   by_cases c:q > 0
   ·rw [if_pos c];exact ih _ _ _ (h.perm hn (fP _ _ _ _))
   ·rw [if_neg c];exact ih _ _ _ h
theorem Ii{n:Nat}(hn:0<n){p:Array Nat}(h:AllLt n p)(m r:Nat):AR n (fun r=>AllLt n r.2) (kas_tail3 m r p) :=
 AR.bind _ (ar_asc (h.perm hn (fP _ _ _ _)) _ _) fun Z Z=>h.perm hn (fP _ _ _ _)
theorem D9{n:Nat}(hn:0<n){p:Array Nat}(h:AllLt n p)(m r:Nat):AR n (fun r=>AllLt n r.2) (kas_descPart m r p):=by
 refine AR.bind _ (ar_desc hn _ _ _ _ h) fun a ha=>?_
 by_cases c:a.2.2 > 0
 ·rw [if_pos c];exact Ii hn (ha.perm hn (fP _ _ _ _)) _ _
 ·rw [if_neg c];exact Ii hn ha _ _
theorem ar_count{n:Nat}(hn:0<n){p:Array Nat}(h:AllLt n p)(r:Nat):AR n (fun r=>AllLt n r.2) (fF r p):=by
 refine AR.bind _ (ar_asc h _ _) fun m Z=>?_
 by_cases c:(m == r)=true
 ·rw [if_pos c];exact h
 ·rw [if_neg c]
  by_cases d:m > 1
  ·rw [if_pos d]
   refine ⟨h _,h _,fun b=>?_⟩
   cases b
   ·exact D9 hn (h.perm hn (fP _ _ _ _)) _ _
   ·exact h
  ·rw [if_neg d];exact D9 hn h _ _
theorem ar_place{n:Nat}{p:Array Nat}(h:AllLt n p)(k f:Nat):∀l r,AR n (fun Z=>True) (ij p k f l r):=by
 induction f with
 | zero=>intro l r;exact trivial
 | succ f ih =>
  intro l r;show AR n _ (if l >= r then _ else _)
  by_cases c:l >= r
  ·rw [if_pos c];exact trivial
  ·rw [if_neg c]
   refine ⟨h _,h _,fun b=>?_⟩
   cases b
   ·exact ih _ _
   ·exact ih _ _
theorem ar_bin{n:Nat}(hn:0<n)(f:Nat):∀(p:Array Nat)(k:Nat),AllLt n p->AR n (fun Z=>True) (kas_bin f p k):=by
 induction f with
 | zero=>intro p k _;exact trivial
 | succ f ih=>intro p k h;exact AR.bind _ (ar_place h _ _ _ _) fun l Z=>ih _ _ (h.perm hn (bubble_perm _ _ _))
theorem ar_sort{n:Nat}(hn:0<n):AR n (fun Z=>True) (fQ n):=by
 refine AR.bind _ (ar_count hn (p:=aA (bt n)) (fun k=>?_) _) fun r hr=>?_
 ·rw [bo]
  cases g:(aA (bt n))[k]? with
  | none=>exact hn
  | some x =>
   have:x∈bt n:=by simpa using Array.mem_of_getElem? g
   exact gx.mp this
 ·by_cases c:r.1<n
  ·rw [if_pos c];exact ar_bin hn _ _ _ hr
  ·rw [if_neg c];exact trivial
end
section
open PySem PySem.W PySem.Calls PyProof.Rows
theorem kasWp_ar{α:Type}{n:Nat}{R:α->Prop}{cmp:Nat->Nat->(Bool->ae->Prop)->ae->Prop}{lt:Nat->Nat->Bool}{I:ae->Prop}(h:∀i j C s,i<n->j<n->I s->(∀s',I s'->C (lt i j) s')->cmp i j C s){Q:α->ae->Prop}(t:KasT α)(ht:AR n R t) :
  ∀{s:ae},I s->(∀s',I s'->Q (ans lt t) s')->t.kasWp cmp Q s:=by
 induction t with
 | ret a=>intro s hs hq;exact hq s hs
 | ask i j k ih=>intro s hs hq;exact h i j _ s ht.1 ht.2.1 hs fun s' z=>ih (lt i j) (ht.2.2 _) z hq
section
variable {prog:dw}{w:World}{A:cz}{s:ae}
theorem GD{ks:List Value}{kk:Nat->Int×Int}{n:Nat}{G:Array Nat->ae->Prop}(hn:0<n)(hk:∀i,i<n->IsPr s.heap (ks.getD i cH) (kk i))(h:G (ans (fun i j=>AL (kk i) (kk j)) (fQ n)) s) :
  (fQ n).kasWp (kas_ask prog w A (tuples' true) ks) G s:=by
 refine kasWp_ar (I:=fun s'=>s'=s) (lt:=fun i j=>AL (kk i) (kk j)) (fun i j C s' hi hj hs hC=>?_) _ (ar_sort hn) rfl fun s' e=>e▸h;clear h;subst hs;unfold kas_ask;refine X4pp (hk i hi) fun a t u m e1 g1=>?_;refine X4pp (hk j hj) fun b t' u' m' e2 g2=>?_;rw [e1,e2];exact pair_lt g1 g2 (hC _ rfl)
theorem JZ{kk:Nat->Int×Int}{n:Nat}(h2:2<=n)(d:∀i j,i≠j->i<n->j<n->kk i≠kk j) :
  Srt (fun i j=>AL (kk i) (kk j)) (ans (fun i j=>AL (kk i) (kk j)) (fQ n)) n/\(ans (fun i j=>AL (kk i) (kk j)) (fQ n)).Perm (aA (bt n)) :=
 sort_srt (IP kk) h2 fun i j Y hi hj=>by
  have:=d i j Y hi hj
  unfold AL
  by_cases e:(kk i).1=(kk j).1
  ·rw [if_pos e,if_pos e.symm,decide_eq_true_eq,decide_eq_true_eq]
   have:(kk i).2≠(kk j).2:=fun e2=>this (bH e e2)
   exact bQ fun z0=>(bx Y).elim (fun z1=>(aQ this).elim (fun z2=>lin [] [(kk i).snd,(kk j).snd] .no [.l V0 V1,.g V0 V1] rfl (fun z=>z0 (.inl z)) z2) (fun z2=>lin [] [(kk j).snd,(kk i).snd] .no [.l V0 V1,.g V0 V1] rfl (fun z=>z0 (.inr z)) z2)) (fun z1=>(aQ this).elim (fun z2=>lin [] [(kk i).snd,(kk j).snd] .no [.l V0 V1,.g V0 V1] rfl (fun z=>z0 (.inl z)) z2) (fun z2=>lin [] [(kk j).snd,(kk i).snd] .no [.l V0 V1,.g V0 V1] rfl (fun z=>z0 (.inr z)) z2))
  ·rw [if_neg e,if_neg (fJ e),decide_eq_true_eq,decide_eq_true_eq]
   exact bQ fun z0=>(bx Y).elim (fun z1=>(aQ e).elim (fun z2=>lin [] [(kk i).fst,(kk j).fst] .no [.l V0 V1,.g V0 V1] rfl (fun z=>z0 (.inl z)) z2) (fun z2=>lin [] [(kk j).fst,(kk i).fst] .no [.l V0 V1,.g V0 V1] rfl (fun z=>z0 (.inr z)) z2)) (fun z1=>(aQ e).elim (fun z2=>lin [] [(kk i).fst,(kk j).fst] .no [.l V0 V1,.g V0 V1] rfl (fun z=>z0 (.inl z)) z2) (fun z2=>lin [] [(kk j).fst,(kk i).fst] .no [.l V0 V1,.g V0 V1] rfl (fun z=>z0 (.inr z)) z2))
end
end
section
variable {S:Sta}
section
variable {tb:List Nat}{env:Env}{N P Z:Addr->Prop}{b:Store×ae}{m:Vars}{V:Store}{s:ae}{h':Heap}
theorem St.apartZ{tk:Nat}(hs:Mine.Internal.St S tb env N P b m V s)(k:∀b o,s.heap.get? b=some o->h'.get? b=some o)(hZ:∀a,Z a->s.heap.get? a=aa/\∃o,h'.get? a=some o/\∀vs,o.data≠.fields vs) :
  Mine.Internal.St S tb env (fun a=>N a\/Z a) P b m V { s with heap:=h',toks:=tk }/\Step noO noO V s V { s with heap:=h',toks:=tk }:=by
 refine Ao (hs.grow k tk) fun h1 st=>?_;have e0:Ext (DN N V) s.heap h':=Ext.of_keeps k;have z:∀b,DN (fun a=>N a\/Z a) V b->DN N V b\/s.heap.get? b=aa:=by
  rintro b (q | q | q)
  ·exact .inl (.inl q)
  ·exact .inl (.inr q)
  ·exact .inr (hZ b q).1
 refine ⟨⟨⟨h1.inv.keep,h1.inv.gens,h1.inv.drawn,h1.inv.os,h1.inv.σg,?_,?_,fun a o e=>(hs.inv.rep a o e).ext e0 z (k a)⟩,?_,h1.frm,fun a q=>.inl (hs.pN a q),hs.new,fun a q=>.inl (hs.own a q),hs.gb⟩,st⟩
 ·rintro a d (q | q)
  ·exact hs.inv.σN a d q
  ·exact hs.inv.not_dom (hZ a q).1 d
 ·rintro a (q | q)
  ·exact h1.inv.Nin a q
  ·exact (hZ a q).2
 ·have ow:=hs.loc
  obtain ⟨_,_,_,_,ow,_⟩:=ow;exact hs.loc.map (fun a o Y e=>k a o e) (fun a q=>(ow a q).1) fun r=>r.ext e0 z
theorem St.turnZ(hs:Mine.Internal.St S tb env N P b m V s)(hZ:∀a,Z a->N a/\¬Own env a/\b.2.heap.get? a=aa)(hb:∀c o,¬Z c->s.heap.get? c=some o->h'.get? c=some o)(y:∀a,Z a->∃o,h'.get? a=some o/\∀vs,o.data≠.fields vs) :
  Mine.Internal.St S tb env N P b m V { s with heap:=h' }/\Step P Z V s V { s with heap:=h' }:=by
 have e0:Ext (DN N V) s.heap h':=Ext.of_but fun c o d e=>hb c o (fun q=>d (.inr (hZ c q).1)) e;have hD:∀c,DN N V c->DN N V c\/s.heap.get? c=aa:=fun c q=>.inl q;have rep:∀{av v},Rep S.cv s.heap (DN N V) av v->Rep S.cv h' (DN N V) av v:=fun r=>r.ext e0 hD;have there:∀a o,s.heap.get? a=some o->∃o',h'.get? a=some o':=fun a o e=>by
  by_cases q:Z a
  ·refine X1pp (y a q) fun o' e' Y=>?_;exact ⟨o',e'⟩
  ·exact ⟨o,hb a o q e⟩
 obtain ⟨mc,cm,n,cc,ow,ap,cl,rr⟩:=hs.loc;refine ⟨⟨⟨fun a o e=>hb a o (fun q=>?_) (hs.inv.keep a o e),hs.inv.gens,hs.inv.drawn,hs.inv.os,hs.inv.σg,hs.inv.σN,fun a q=>?_,fun a o e=>(hs.inv.rep a o e).ext e0 hD fun ob e'=>hb a ob (fun z=>hs.inv.σN a (by unfold Dom;rw [e];simp) (hZ a z).1) e'⟩,?_,?_,hs.pN,hs.new,hs.own,hs.gb⟩,
  Step.of_but (fun a o Y n e=>hb a o n e) (fun Y h=>.inl h) there⟩
 ·rw [hs.gb a (hZ a q).2.2] at e;cases e
 ·refine X1pp (hs.inv.Nin a q) fun o e nf=>?_
  by_cases z:Z a
  ·exact y a z
  ·exact ⟨o,hb a o z e,nf⟩
 ·refine ⟨mc,cm,?_,fun z a hz=>?_,ow,ap,cl,fun z j av hj hm=>?_⟩
  ·refine X3pp n fun o es ep e d=>?_;exact ⟨o,es,ep,hb _ _ (fun q=>(hZ _ q).2.1 (.inl rfl)) e,d⟩
  ·refine X1pp (cc z a hz) fun o e d=>?_;exact ⟨o,hb _ _ (fun q=>(hZ _ q).2.1 (.inr ⟨z,hz⟩)) e,d⟩
  ·exact LocAt.map (rr z j av hj hm) (fun h2=>rep h2) (fun Y h1=>h1) (fun Y h1=>h1)
 ·exact hs.frm.over fun a e o=>hb a o fun q=>e.elim fun o e=>Ak (hZ a q).2.2 e
end
noncomputable def KeyT(S:Sta)(k:Nat)(fv:Value)(key:AV->Af)(l:List AV):Prop:=∀x∈l,∀(V:Store)(Q:AV->Store->Prop),Q (sp (key x)) V->CallT S k fv [x] V Q noX
section
variable {F:Fx S}{m:Vars}{V:Store}{s:ae}{X:Value->ae->Prop}{Q:AV->Store->Prop}
theorem Hi{kS D:Addr}{oD:Obj}{Z:Addr->Prop}{fv:Value}{key:AV->Af}{kf:Nat}{Fin:List Value->Nat->ae->Prop}(hZ:∀a,Z a->F.N a/\¬F.O a/\F.b.2.heap.get? a=aa/\¬F.P a)(zk:Z kS)(zD:Z D)(hne:D≠kS)(hk:kf+2<=F.k){AH:ae}{L:List AV} :
  ∀(r:List AV)(d:List AV)(rv ks:List Value)(e:Nat)(s:ae),KeyT S kf fv key r->L=d++r->F.St m V s->Step F.P Z V AH V s->RepL S.cv s.heap (F.D V) r rv->s.heap.get? D=some oD->s.heap.get? kS=some (AB ks.toArray e)->RepL S.cv s.heap (F.D V) (d.map fun x=>sp (key x)) ks ->
  (∀ks' e' s',F.St m V s'->Step F.P Z V AH V s'->s'.heap.get? D=some oD->s'.heap.get? kS=some (AB (aA ks') e')->RepL S.cv s'.heap (F.D V) (L.map fun x=>sp (key x)) ks'->Fin ks' e' s')->SkKeys S.prog S.w F.A.in1.in1 kS fv Fin rv ks e s
 | [],d,rv,ks,e,s,_,hL,hs,st,rr,gD,g,rk,fin=>by
  rw [show rv=[] from rr.inv]
  rw [aM] at hL;subst hL;exact fin ks e s hs st gD g rk
 | x::r,d,rv,ks,e,s,hkey,hL,hs,st,rr,gD,g,rk,fin=>by
  obtain ⟨v,rv,rfl,rx,rr⟩:=rr.inv;have room:Room S F.N kf F.A.in1.in1:=Room.in1 (Room.in1 ⟨F.room.hh,F.room.fr,by have:=F.room.dp;exact lin [kf,F.k,F.A.depth] [] (.c (.A V2 (.M 2 (.A (.A V0 K1) K1))) Gk) [.B 2 (.A V0 K2) V1,.c (.A V2 (.M 2 V1)) Gk] rfl hk this,by have:=F.room.un;exact lin [kf,F.k,F.A.units] [] (.c (.A V2 (.M 20 (.A (.A V0 K1) K1))) BG) [.B 20 (.A V0 K2) V1,.c (.A V2 (.M 20 V1)) BG] rfl hk this⟩)
  refine wpAny_call (dF (hkey x (.head _) V (fun a V'=>a=sp (key x)/\V=V') ⟨rfl,rfl⟩ F.N F.A.in1.in1 [v] s room hs.inv (.cons rx .nil)) fun res s' z=>?_)
  cases res with
  | error err=>exact iq z
  | ok fl =>
   cases fl with
   | ret k =>
    obtain ⟨av,V',st',i,ra,rfl,rfl⟩:=z;have hs':F.St m V s':=hs.to st' i fun Y h=>h;have T:∀a o,Z a->s.heap.get? a=some o->s'.heap.get? a=some o:=fun a o z e=>st'.ext.obj _ _ e fun q=>q.elim (fun q=>hs.inv.σN _ q (hZ a z).1) fun q=>q.elim (fun q=>q.elim) (hZ a z).2.2.2;have u:Step F.P Z V s V s':=st'.mono fun Y h=>h.elim;refine ⟨T _ _ zk g,fun h'' c eb gk=>?_⟩;obtain ⟨hs2,st2⟩:=St.turnZ (Z:=(·=kS)) (h':=h'') hs' (fun a q=>by clear g;subst q;exact ⟨(hZ _ zk).1,(hZ _ zk).2.1,(hZ _ zk).2.2.1⟩) (fun a o q e=>eb a o q e) (fun a q=>by clear g;subst q;exact ⟨_,gk,fun vs z=>by cases z⟩)
    have U:Step F.P Z V s' V { s' with heap:=h'' }:=st2.mono fun a q=>by clear g st2;subst q;exact zk
    have zN:∀a,Z a->F.N a:=fun a z=>(hZ a z).1;refine Hi hZ zk zD hne hk r (d++[x]) rv (ks++[k]) c _ (fun y hy=>hkey y (.tail _ hy)) (by rw [hL];simp) hs2 ((st.trans u).trans U) ?_ (eb D _ hne (T _ _ zD gD)) gk ?_ fin
    ·exact ((rr.step u zN hs.pN).step U zN hs.pN)
    ·rw [aP]
     exact RepL.snoc ((rk.step u zN hs.pN).step U zN hs.pN) (ra.step U zN hs.pN)
   | _=>exact z.elim
theorem RepL.at{cv:Nat->Value}{h:Heap}{D:Addr->Prop}:∀{L:List AV}{vs:List Value},RepL cv h D L vs->∀i,i<L.length->Rep cv h D (L.getD i .none) (vs.getD i cH)
 | [],_,_,i,hi=>absurd hi (d3 _)
 | x::L,vs,r,i,hi=>by
  refine X2lpp vs r.inv fun v us r1 rr=>?_
  cases i with
  | zero=>exact r1
  | succ i=>exact RepL.at rr i (dY hi)
theorem RepL.pick{cv:Nat->Value}{h:Heap}{D:Addr->Prop}{L:List AV}{vs:List Value}(r:RepL cv h D L vs):∀{p:List Nat},(∀i∈p,i<L.length)->RepL cv h D (p.map fun i=>L.getD i .none) (p.map fun i=>vs.getD i cH)
 | [],_=>.nil
 | i::p,h=>.cons (r.at i (h i (.head _))) (RepL.pick r fun j hj=>h j (.tail _ hj))
theorem C6{α:Type}(L:List α)(d:α):(bt L.length).map (fun i=>L.getD i d)=L:=by
 apply d7;intro i
 by_cases z:i<L.length
 ·simp [z]
 ·simp [z]
theorem key_ne{L:List AV}{key:AV->Af}(nd:(L.map key).Nodup){i j:Nat}(h:i≠j)(hi:i<L.length)(hj:j<L.length):key (L.getD i .none)≠key (L.getD j .none):=by
 intro e;have B:i<(L.map key).length:=by rw [aj];exact hi
 have T:j<(L.map key).length:=by rw [aj];exact hj
 have:(L.map key)[i]=(L.map key)[j]:=by
  rw [ic,ic];rw [az,az,aE hi,aE hj] at e;exact e
 exact h ((List.getElem_inj nd).mp this)
theorem IO{p q:Af}(h:p≠q)(n:AL q p=false):AL p q=true:=by
 obtain ⟨a,b⟩:=p;obtain ⟨c,d⟩:=q;unfold AL at *;dsimp only at *
 by_cases e:a=c
 ·subst e
  rw [if_pos rfl] at n ⊢;rw [decide_eq_false_iff_not] at n;rw [decide_eq_true_eq]
  have:b≠d:=fun z=>h (by rw [z])
  exact (aQ this).elim (fun z0=>lin [] [b,d] (.g V0 V1) [.g V0 V1] rfl z0) (fun z0=>lin [] [d,b] (.G 0 V1 V0) [.l V0 V1,.g V0 V1] rfl n z0)
 ·rw [if_neg e]
  rw [if_neg (fJ e),decide_eq_false_iff_not] at n;rw [decide_eq_true_eq];exact (aQ e).elim (fun z0=>lin [] [a,c] (.g V0 V1) [.g V0 V1] rfl z0) (fun z0=>lin [] [c,a] (.G 0 V1 V0) [.l V0 V1,.g V0 V1] rfl n z0)
structure Picks(L:List AV)(key:AV->Af)(p:List Nat):Prop where
 lt:∀i∈p,i<L.length
 perm:(p.map fun i=>L.getD i .none).Perm L
 up:(p.map fun i=>L.getD i .none).Pairwise fun x y=>AL (key x) (key y)=true
theorem JW{L:List AV}{key:AV->Af}(h:L.length<2):Picks L key (bt L.length):=by
 refine ⟨fun i hi=>gx.mp hi,?_,?_⟩
 ·rw [C6]
 ·rw [C6]
  match L,h with
  | [],_=>exact .nil
  | [x],_=>exact List.pairwise_singleton _ _
theorem IK{L:List AV}{key:AV->Af}(nd:(L.map key).Nodup){p:Array Nat}(hs:Srt (fun i j=>AL (key (L.getD i .none)) (key (L.getD j .none))) p L.length)(hp:p.Perm (aA (bt L.length))):Picks L key p.toList:=by
 have hp:p.toList.Perm (bt L.length):=by simpa using Array.perm_iff_toList_perm.mp hp
 have lt:∀i∈p.toList,i<L.length:=fun i hi=>gx.mp (hp.mem_iff.mp hi);refine ⟨lt,?_,?_⟩
 ·have:=hp.map fun i=>L.getD i .none
  rwa [C6] at this
 ·rw [cM,List.pairwise_iff_getElem]
  intro i j hi hj Y;have hn:p.toList.Nodup:=hp.nodup_iff.mpr List.nodup_range;have hl:p.toList.length=L.length:=by rw [hp.length_eq,gN]
  have ne:p.toList[i]≠p.toList[j]:=fun e=>bK Y ((List.getElem_inj hn).mp e);have g:∀k (hk:k<p.toList.length),p.getD k 0=p.toList[k]:=fun k hk=>by
   have:k<p.size:=by simpa using hk
   simp [Array.getD,this]
  have:=hs i j Y (by exact lin [j,p.toList.length,L.length] [] (.c V0 V2) [.c V0 V1,.d V1 V2] rfl hj hl)
  rw [g i hi,g j hj] at this;exact IO (key_ne nd ne (lt _ (ig hi)) (lt _ (ig hj))) this
noncomputable def Fx.more(F:Fx S)(Z:Addr->Prop):Fx S:=⟨F.A,F.tb,F.env,F.b,fun a=>F.N a\/Z a,F.k,F.room.wide (fun Y q=>.inl q),F.fk,F.fg,F.fb,F.fc⟩
theorem Kk{h:Heap}{D:Addr->Prop}{cv:Nat->Value}{L:List AV}{key:AV->Af}{ks:List Value}(r:RepL cv h D (L.map fun x=>sp (key x)) ks)(i:Nat)(hi:i<L.length):IsPr h (ks.getD i cH) (key (L.getD i .none)):=by
 have B:i<(L.map fun x=>sp (key x)).length:=by rw [aj];exact hi
 have:=r.at i B
 have e:(L.map fun x=>sp (key x)).getD i .none=sp (key (L.getD i .none)):=by
  rw [az,az,aW,aE hi];rfl
 rw [e] at this;refine X4ppp (Rep.spot this) fun t tx ty n e1 e2 Z=>?_;exact ⟨t,tx,ty,n,e1,e2⟩
theorem Gy{l:Addr}{vs:List Value}{n:Nat}{L:List AV}{fv:Value}{key:AV->Af}{kf:Nat}(hk:kf+2<=F.k)(hkey:KeyT S kf fv key L)(h64:L.length<64)(nd:(L.map key).Nodup)
  (ht:∀x,dy.«list.sort» ⟨[.ref x],[(bX "key",fv)]⟩=ksk_tree x fv false) (hs:F.St m V s) (e:s.heap.get? l=some (AB vs.toArray n)) (r:RepL S.cv s.heap (F.D V) L vs)
  (hQ:∀L',L'.Perm L->L'.Pairwise (fun x y=>AL (key x) (key y)=true)->Fresh V (.list L') (.list L') Q):VT F m V s (call (.builtin "sorted") [.ref l] [(bX "key",fv)]) Q X:=by
 have B:vs.length=L.length:=r.length;refine JB ⟨_,e,rfl,n,rfl⟩ (by rw [B];exact h64) ht fun D kS e1 h' hne nD nK k gD gK=>?_
 have U:∀a,a=D\/a=kS->s.heap.get? a=aa:=fun a q=>q.elim (fun q=>q▸nD) (fun q=>q▸nK);have gZ:∀a,a=D\/a=kS->∃o,h'.get? a=some o/\∀vs,o.data≠.fields vs:=fun a q=>q.elim (fun q=>⟨_,q▸gD,fun Y z=>by cases z⟩) (fun q=>⟨_,q▸gK,fun Y z=>by cases z⟩)
 refine Ao (hs.apartZ (Z:=fun a=>a=D\/a=kS) (tk:=s.toks) k fun a q=>⟨U a q,gZ a q⟩) fun hs1 st1=>?_;have nN:∀a,a=D\/a=kS->¬F.N a:=fun a q z=>by refine X1pp (hs.inv.Nin a z) fun o eo Y=>?_;exact Ak (U a q) eo
 have Y:∀a,a=D\/a=kS->(F.N a\/a=D\/a=kS)/\¬F.O a/\F.b.2.heap.get? a=aa/\¬F.P a:=fun a q=>⟨.inr q,fun z=>nN a q (hs.own a z),hs.frm.new (U a q),fun z=>nN a q (hs.pN a z)⟩;have zN:∀a,(a=D\/a=kS)->F.N a\/a=D\/a=kS:=fun a q=>.inr q;have r1:RepL S.cv h' (DN (fun a=>F.N a\/a=D\/a=kS) V) L vs:=r.ext (Ext.of_keeps k) fun b q=>q.elim (fun q=>.inl (.inl q)) fun q=>q.elim (fun q=>.inl (.inr q)) fun q=>.inr (U b q);refine Hi (F:=F.more fun a=>a=D\/a=kS) (AH:={ s with heap:=h' }) (m:=m) (V:=V) (D:=D) (oD:=AB #[] e1) Y (.inr rfl) (.inl rfl) hne hk L [] vs [] 0 _ hkey rfl hs1 (Step.refl _ _ _ _) r1 gD gK .nil ?_
 intro T e' s' hs' st' gD' gk' rk;have hl:T.length=L.length:=by have:=rk.length;rw [aj] at this;exact this
 have r2:=r1.step st' zN hs'.pN;have fin:∀p:Array Nat,Picks L key p.toList->SkFin kS D T vs e' e1 (fun Y s4=>PW F m V s (PV F Q) (.ref D) s4) p s':=fun p hp=>by
  refine ⟨gk',gD',fun u c hb hkc hD'=>?_⟩;obtain ⟨hs3,st3⟩:=St.turnZ (Z:=fun a=>a=D\/a=kS) (h':=u) hs' (fun a q=>⟨.inr q,(Y a q).2.1,(Y a q).2.2.1⟩) (fun b o q e=>hb b o (fun z=>q (.inr z)) (fun z=>q (.inl z)) e) (fun a q=>q.elim (fun q=>⟨_,q▸hD',fun Y z=>by cases z⟩) fun q=>by refine X1p hkc fun c' ec=>?_;exact ⟨_,q▸ec,fun Y z=>by cases z⟩)
  have r3:=(r2.step st3 zN hs'.pN).pick hp.lt;have st:Step F.P noO V s V { s' with heap:=u }:=Step.out (st1.wide fun Y h=>h.elim) (st'.trans st3) U
  rcases hQ _ hp.perm hp.up with q | ⟨i,q⟩
  ·have h1:F.St m V { s' with heap:=u }:=hs3.open_ (fun Y q=>.inl q) hs.own hs.pN
   exact ⟨V,st.mono fun Y h=>h.elim,h1,_,.list hD' (hs.inv.not_D nD) (r3.less fun a q=>q.imp id .inl),q⟩
  ·have h1:Mine.Internal.St S F.tb F.env (fun a=>F.N a\/a=D) F.P F.b m V { s' with heap:=u }:=hs3.open_ (fun Y q=>q.imp id .inl) (fun a q=>.inl (hs.own a q)) (fun a q=>.inl (hs.pN a q))
   have h2:F.St m (V.set D (.list (p.toList.map fun i=>L.getD i .none))) { s' with heap:=u }:=h1.take hs.own hs.pN (nN D (.inl rfl)) (hs.frm.new nD) (.list hD' (r3.less fun a q=>q.imp id fun q=>q.imp id .inl))
   have st4:Step F.P noO V s (V.set D (.list (p.toList.map fun i=>L.getD i .none))) { s' with heap:=u }:=⟨st.ext,st.frm,fun a d=>(A1 d).elim (fun z=>.inr (by rw [z];exact nD)) (st.dom a),st.there⟩
   exact ⟨_,st4.mono fun Y h=>h.elim,h2,_,.loc D i,q D (hs.inv.not_dom nD)⟩
 unfold Ha
 by_cases h2:vs.length<2
 ·rw [if_pos h2]
  exact fin _ (by rw [B] at h2 ⊢;exact JW h2)
 ·rw [if_neg h2]
  refine IM (fun v hv=>?_) (by exact lin [vs.length,L.length,T.length] [] (.c K0 V2) [.d V0 V1,.D (-1) V2 V1,.j V0 K2] rfl B hl h2) ?_
  ·obtain ⟨i,hi,rfl⟩:=List.getElem_of_mem hv
   have:=Kk (L:=L) rk i (Nat.lt_of_lt_of_eq hi hl)
   rw [az,aE hi] at this;exact ⟨_,this⟩
  ·refine Ao (JZ (kk:=fun i=>key (L.getD i .none)) (n:=L.length) (by exact lin [vs.length,L.length] [] (.b K2 V1) [.d V0 V1,.j V0 K2] rfl B h2) fun i j hij hi hj=>key_ne nd hij hi hj) fun p1 p2=>?_
   rw [B];refine GD (by exact lin [vs.length,L.length] [] (.c K0 V1) [.d V0 V1,.j V0 K2] rfl B h2) (fun i hi=>Kk rk i hi) (fin _ (IK nd p1 p2))
theorem ET.sorted{x:E}{i:Nat}{fa:Addr}{kf:Nat}{key:AV->Af}(hg:Glob S i (.ref fa))(hb:Glob S 10 (.builtin "sorted"))(hk:kf+2<=F.k)
  (h:ET F m V x (fun a Aa=>∃L,dl Aa a=some L/\KeyT S kf (.ref fa) key L/\L.length<64/\(L.map key).Nodup/\∀L',L'.Perm L->L'.Pairwise (fun x y=>AL (key x) (key y)=true)->Fresh Aa (.list L') (.list L') Q) X):ET F m V (.sorted x (.g i)) Q X:=by
 intro pe hc s hs;obtain ⟨a,f,kp,p,q,x,O,rfl,rfl,rfl,z,hn,ha,hf⟩:=hc.inv;refine X2lp f (CE.inv hf) fun f' u hx=>?_;have B:IsG F.sc "sorted" 10:=⟨by decide +kernel,z,by decide +kernel⟩
 show wpAny _ _ (do callWith p (<- eval (.Name "sorted" q) F.env) [] (backTo p (e8 [a] F.env)) (backToKw p (keywordEach [⟨some "key",.Name f' u,kp⟩] F.env))) _ _ _
 refine ac (Ew B hb hs ?_);refine callWith_of (P:=fun h=>∀b o,S.g.get? b=some o->h.get? b=some o) ?_ (Callable.builtin (S:=S) _) ?_
 ·rw [AX hn];rfl
 refine evalArgs_kw2 rfl ?_ (AX hn);refine wpAny_items_cons (W.out (h _ ha s hs) ?_) (AX hn);intro v V' s' st h1 d;obtain ⟨av,ra,L,hd,Y,T,nd,hQ⟩:=d;refine args_nil ?_;refine kwAll_cons (Ew hx hg h1 (kwAll_nil ?_));refine X3lpp v (ra.lst h1.inv hd) fun l vs n e rl=>?_;exact ⟨h1.inv.keep,(Gy hk Y T nd (fun x=>ksk_t1 fa x) h1 e rl hQ).later st⟩
end
end
section
open PySem PySem.W PySem.Calls PyProof.Rows
section
variable {prog:dw}{w:World}{A:cz}{E:Value->ae->Prop}{s:ae}
theorem tup_lt{x y:Addr}{p q:Af}{t u t' u':Tok}{n k:Nat}{P:Fin->ae->Prop}(hx:s.heap.get? x=some (Br #[.int p.1 t,.int p.2 u] n))(hy:s.heap.get? y=some (Br #[.int q.1 t',.int q.2 u'] k))
  (h:P (.done (.ret (.bool (AL p q)))) s):wpAny (model prog w) A (dy.«tuple.__lt__» ⟨[.ref x,.ref y],[]⟩) P E s:=by
 show wpAny _ _ (isInstance (.ref y) (.type "tuple") >>= _) _ _ s;refine ac (dK (T := "tuple") ⟨_,hy,rfl⟩ isSubtype_tuple_tuple ?_);simp only [gT,bT,if_false];refine ac (wpAny_tupleItemsOf hx rfl ?_);refine ac (wpAny_tupleItemsOf hy rfl ?_);refine ac ?_;show wpAny _ _ (forIn [(ik p.1 t,ik q.1 t'),(ik p.2 u,ik q.2 u')] _ _) _ _ s;rw [d0];refine ac (ac (ez ?_));unfold AL at h
 by_cases e:p.1=q.1
 ·rw [if_pos e] at h
  rw [show (p.1 == q.1)=true from beq_iff_eq.mpr e]
  refine ag ?_;show wpAny _ _ (forIn [(ik p.2 u,ik q.2 u')] _ _) _ _ s;rw [d0];refine ac (ac (ez ?_))
  by_cases e2:p.2=q.2
  ·rw [show (p.2 == q.2)=true from beq_iff_eq.mpr e2]
   refine ag ?_;refine ag ?_;rw [e2,decide_eq_false (Int.lt_irrefl _)] at h;exact ag h
  ·rw [show (p.2 == q.2)=false from beq_eq_false_iff_ne.mpr e2]
   refine ac (fA (ac (lt_int ?_)));exact ag (ag (ag h))
 ·rw [if_neg e] at h
  rw [show (p.1 == q.1)=false from beq_eq_false_iff_ne.mpr e]
  refine ac (fA (ac (lt_int ?_)));exact ag (ag (ag h))
end
section
variable {S:Sta}{F:Fx S}{m:Nat->Option AV}{V:Store}{X:Value->ae->Prop}
theorem KT.ltSpot{p q:Af}{Q:Bool->Store->Prop}(h:Q (AL p q) V):KT F m V .Lt (sp p) (sp q) Q X:=by
 intro va vb s hs ra rb;refine X4lpp va (Rep.spot ra) fun x t u n e Z=>?_;refine X4lpp vb (Rep.spot rb) fun y t' u' k e' Z=>?_;have hu:F.A.units<cLine:=by have:=F.room.un;unfold cLine;exact lin [F.A.units,F.k] [] (.c V0 Eh) [.c (.A V0 (.M 20 V1)) BG] rfl this
 exact d8 (op:=.Lt) ⟨_,e,rfl⟩ ⟨_,e',rfl⟩ PySem.F.slot_tuple_lt
  (cJ PySem.F.slot_tuple_lt ⟨_,e,rfl⟩ PySem.F.entry_tuple_lt (tup_lt e e' ⟨_,rfl,(fun e=>nomatch e),V,Step.refl _ _ _ _,hs,_,rfl,h⟩) (PySem.F.args_tuple_lt_2 _ _)) hu
end
end
section
variable {S:Sta}
section
variable {F:Fx S}{m:Vars}{V:Store}{X:Value->ae->Prop}{Q:AV->Store->Prop}
theorem CT.get{k:Af}{b:AV}{l:List (Af×AV)}(hb:dd V b=some l)(h:Q ((Bq l k).getD .none) V):CT F m V (.builtin "dict.get") [b,sp k] Q X:=by
 intro U s hs r;refine X2lpp U r.two fun vb va rb ra=>?_;refine X4lpp va ra.spot fun t tx ty n e d=>?_;refine X3lpppp vb (rb.dct hs.inv hb) fun ad es n' e' sm nd rd=>?_;refine X1pp (RepD.xs (S:=S) rd) fun xs hx Z0=>?_;clear rd;subst Z0;have q:=hx.at_ k;have hm:=Ee hx nd e';refine call_meetsIn PySem.F.slot_dict_get hm.typeIs PySem.F.entry_dict_get (PySem.F.args_dict_get_2 _ _) (meetsH_dict_get _ ad t sm) ⟨Bz F,key k,xs,Ed e,hm,?_⟩;refine ⟨V,Step.toks _ _ _ _ _,hs.tok _,_,?_,h⟩
 revert q
 cases Bq l k with
 | none =>
  cases atKey xs (key k) with
  | none=>intro _;exact .none
  | some p=>intro q;exact q.elim
 | some av =>
  cases atKey xs (key k) with
  | none=>intro q;exact q.elim
  | some p=>intro q;exact q
theorem meth_get:Jj "get" (Ty.name .dict) "dict.get":=⟨eZ,PySem.F.slot_dict_get,PySem.F.type_dict_get⟩
noncomputable def IY(l:List AV)(k:Nat)(x:AV):List AV:=l.take k++x::l.drop k
theorem CT.insert{ad:Addr}{ii:Nat}{i:Int}{l:List AV}{x:AV}(ho:V ad=some (.list l))(hz:l.length<=big)(h0:0<=i)(hk:i.toNat<=l.length)(h:Q .none (V.set ad (.list (IY l i.toNat x)))):CT F m V (.builtin "list.insert") [.loc ad ii,.int i,x] Q X:=by
 intro U s hs r;obtain ⟨v,r1,rfl,ra,r⟩:=r.inv;obtain ⟨u,y,rfl,ru,rx⟩:=r.two;refine X3ppp (ra.lst hs.inv (BE ho)) fun d vs n Z0 e rl=>?_;clear r;subst Z0;obtain rfl:=(b4 ra.inv).symm;refine X1l u ru.inv fun tk=>?_;have Y:¬(!Builtin.List.listFitsIndex i)=true:=by
  unfold Builtin.List.listFitsIndex;have h1:(-(2 ^ 63:Int)<=i):=dh (by decide) h0
  have h2:(i<2 ^ 63):=eO (show i<=1000000 by have:i.toNat<=1000000:=aB hk hz;exact lin [i.toNat] [i] (.f V0 Az) [.b V0 Az,.f V0 (.c V0)] rfl this (aK i)) (by decide)
  rw [decide_eq_true h1,decide_eq_true h2];decide
 have T:vs.toArray.size<=fL:=by rw [aG,rl.length];exact A6 hz
 refine call_meets gU ⟨_,e,rfl⟩ PySem.F.entry_list_insert (PySem.F.args_list_insert_3 _ _ _) (PySem.AutoListH.list_insert_list_int_val_1 ad vs.toArray n i tk y Y T) ⟨e,?_⟩;have ms:bi (fun xs:Array Value=>have j:=if i<0 then (i+((xs.size:Nat):Int)).toNat else min i.toNat xs.size;(xs.extract 0 j).push y++xs.extract j) (AB vs.toArray n)=AB (vs.take i.toNat++y::vs.drop i.toNat).toArray (if ((vs.take i.toNat++y::vs.drop i.toNat).toArray.size == vs.toArray.size) then n else n+1):=by
  have hj:(if i<0 then (i+((vs.toArray.size:Nat):Int)).toNat else min i.toNat vs.toArray.size)=i.toNat:=by
   rw [if_neg (fw.mpr h0),aG,rl.length];exact Nat.min_eq_left hk
  have ee:(vs.toArray.extract 0 i.toNat).push y++vs.toArray.extract i.toNat=(vs.take i.toNat++y::vs.drop i.toNat).toArray:=by
   simp
   rw [<- List.length_drop,il]
  simp only [bi,hj,ee]
 have e':=bL (bi fun xs:Array Value=>have j:=if i<0 then (i+((xs.size:Nat):Int)).toNat else min i.toNat xs.size;(xs.extract 0 j).push y++xs.extract j) e (by rw [ms];rfl)
 rw [ms] at e';refine Ao (Ct (s':=s) (l':=IY l i.toNat x) hs ho (bq ..).extBut e' ((rl.take _).app (.cons rx (rl.drop _)))) fun h1 st=>?_;exact ⟨_,st,h1,_,.none,h⟩
theorem CT.extend{ad:Addr}{ii:Nat}{l k:List AV}{b:AV}(ho:V ad=some (.list l))(hb:dl V b=some k)(hz:l.length+k.length<=big)(h:Q .none (V.set ad (.list (l++k)))):CT F m V (.builtin "list.extend") [.loc ad ii,b] Q X:=by
 intro U s hs r;refine X2lpp U r.two fun v u ra rb=>?_;refine X3ppp (ra.lst hs.inv (BE ho)) fun y vs n Z0 e rl=>?_;subst Z0;obtain rfl:=(b4 ra.inv).symm;refine X3lpp u (rb.lst hs.inv hb) fun bd us n2 eb rk=>?_;have T:vs.toArray.size+us.toArray.size<=fL:=by rw [aG,aG,rl.length,rk.length];exact A6 hz
 have d:¬(!vs.toArray.isEmpty && gV (vs.toArray.size+us.toArray.size))=true:=by
  have:gV (vs.toArray.size+us.toArray.size)=false:=decide_eq_false (cO.mpr T)
  rw [this,Bool.and_false];exact aH
 refine call_meets gX ⟨_,e,rfl⟩ PySem.F.entry_list_extend (PySem.F.args_list_extend_2 _ _) (PySem.AutoSeq1.list_extend_list_list_0 ad vs.toArray n bd us.toArray n2 d (aB (dr _ _) T) (dG T)) ⟨e,eb,?_⟩;have ms:bi (fun x:Array Value=>x++us.toArray) (AB vs.toArray n)=AB (vs++us).toArray (if ((vs++us).toArray.size == vs.toArray.size) then n else n+1):=by
  have ee:vs.toArray++us.toArray=(vs++us).toArray:=by simp
  simp only [bi,ee]
 have e':=bL (bi fun x:Array Value=>x++us.toArray) e (by rw [ms];rfl)
 rw [ms] at e';refine Ao (Ct (s':=s) (l':=l++k) hs ho (bq ..).extBut e' (rl.app rk)) fun h1 st=>?_;exact ⟨_,st,h1,_,.none,h⟩
theorem GJ:Jj "extend" (Ty.name .list) "list.extend":=⟨c8,gX,PySem.F.type_list_extend⟩
theorem GI:Jj "insert" (Ty.name .list) "list.insert":=⟨c8,gU,PySem.F.type_list_insert⟩
end
end
section
variable {S:Sta}
section
variable {A:cz}{E:Value->ae->Prop}{s:ae}
structure TupE(h:Heap)(es:Array aO):Prop where
 key:∀e∈es.toList,∃t,e.key=.ref t/\∃o,h.get? t=some o/\o.cls=.type "tuple"
 one:∀e∈es.toList,(es.filter (·.hash == e.hash)).size<=1
theorem TupE.push{h:Heap}{es:Array aO}(k:TupE h es)(o:Obj):TupE (h.push o) es :=
 ⟨fun e he=>by refine X1pp (k.key e he) fun t h1 Z0=>?_;refine X1pp Z0 fun o' h2 h3=>?_;exact ⟨t,h1,o',ax _ h2,h3⟩,k.one⟩
theorem GY{nm:String}{o:Addr}{es:Array aO}{ep:Nat}{Q:Array aO->ae->Prop}(ho:DictE s.heap o es ep)(k:TupE s.heap es)(h:Q es s):wpAny (model S.prog S.w) A (f7 nm o) Q E s:=by
 unfold f7;refine ac (bG ho rfl ?_);refine ac ?_;rw [<- gw];refine wpAny_forIn_list _ (fun U Z s'=>s'=s/\∀e∈U,e∈es.toList) _ ?_ ?_ _ _ ⟨rfl,fun Z h=>h⟩
 ·intro e U b s' u
  refine X0lp s' u fun hr=>?_;refine X1pp (k.key e (hr e (.head _))) fun t h1 Z0=>?_;refine X1pp Z0 fun o' h2 h3=>?_;refine ac ?_;unfold Builtin.Dict.quietEq;rw [h1];dsimp only;refine ac (wpAny_specialOf (T := "tuple") ⟨o',h2,h3⟩ PySem.F.slot_tuple_eq.lookup (ag ?_));rw [if_pos (by decide +kernel),if_neg (cO.mpr (k.one e (hr e (.head _))))]
  exact ag ⟨rfl,fun e he=>hr e (.tail _ he)⟩
 ·intro b s' u
  refine X0lp s' u fun Z=>?_;exact ag h
theorem Ke{nm:String}{d o:Addr}{es:Array aO}{ep:Nat}{Q:Unit->ae->Prop}(O:d≠o)(T:(o == cp)=false)(hd:DictE s.heap d #[] 0)(ho:DictE s.heap o es ep)(k:TupE s.heap es)(he:es≠#[])(hz:es.size<=fL)
  (hQ:∀h' n,DictE h' d es n->ir d s.heap h'->Q () { s with heap:=h' }):wpAny (model S.prog S.w) A (iu nm d o) Q E s:=by
 unfold iu;rw [if_neg (by simpa using O)]
 unfold d4;rw [if_neg (by rw [T];exact aH)]
 refine ac (ag ?_);refine ac (bG ho rfl ?_);have hf:(decide (es.size<=8) && es.all fun e=>(keyPart e.key).isSome)=false:=by
  cases hx:es.toList with
  | nil=>exact absurd hx (fun z=>he (by rw [<- Array.toArray_toList (xs:=es),z]))
  | cons e r =>
   refine X1pp (k.key e (by rw [hx];exact .head _)) fun t h1 Z=>?_
   have:(es.all fun e=>(keyPart e.key).isSome)=false:=by
    rw [<- Array.all_toList,hx,List.all_cons,h1];rfl
   rw [this,Bool.and_false]
 rw [hf];dsimp only;rw [if_pos (show (!false)=true from rfl)]
 refine ac (bG hd rfl ?_);rw [if_pos (show (#[]:Array aO).isEmpty=true from rfl)]
 refine ac (GY ho k ?_);rw [if_pos (by simp [he])]
 refine ac (wpAny_updateDictKeysTo hd rfl (ag (hQ _ 1 ?_ (bq ..))) (dG hz));exact bL _ hd rfl
theorem Ef{o:Addr}{es:Array aO}{ep:Nat}{Q:Value->ae->Prop}(O:(o == cp)=false)(ho:DictE s.heap o es ep)(k:TupE s.heap es)(he:es≠#[])(hz:es.size<=fL)
  (h:∀h' n,DictE h' s.heap.objs.size es n->(∀b ob,s.heap.get? b=some ob->h'.get? b=some ob)->Q (.ref s.heap.objs.size) { s with heap:=h' }):wpAny (model S.prog S.w) A (call (.type "dict") [.ref o]) Q E s:=by
 refine callType_codes (Q₁:=fun d Ac=>d=.ref s.heap.objs.size/\Ac={ s with heap:=s.heap.push { cls:=.type "dict",data:=.dict #[] } }) PySem.F.kt_called_dict (gy _) PySem.F.entry_dict_init (kt_code_dict_new _ ⟨rfl,rfl⟩) ?_
 intro d Ac B;refine X0ll d Ac B ?_;have U:DictE (s.heap.push { cls:=.type "dict",data:=.dict #[] }) s.heap.objs.size #[] 0:=aF _ rfl;have T:DictE (s.heap.push { cls:=.type "dict",data:=.dict #[] }) o es ep:=ax _ ho;have Y:s.heap.objs.size≠o:=fun e=>absurd (bh ho) (by rw [e];exact Nat.lt_irrefl _)
 refine ⟨U.typeIs,gY _ _,?_⟩;unfold dy.«dict.__init__»;refine ac ?_;unfold hU;refine ac (cF U.typeIs ?_);show wpAny _ _ (pure (s.heap.objs.size,[cE o])) _ _ _;refine ag ?_;show wpAny _ _ (dM "dict.__init__" s.heap.objs.size (.ref o) [] .none) _ _ _;unfold dM;refine ac (wpAny_typeOf T.typeIs ?_);rw [if_neg (by decide)]
 refine ac ?_;unfold Builtin.Dict.merge;refine ac ?_;unfold Builtin.Dict.readDirectly;refine ac (dK T.typeIs gf ?_);simp only [gT,bT,if_false];refine ac (wpAny_specialOf T.typeIs fh.lookup (ag ?_));simp only [beq_self_eq_true,if_true];refine ac (ag ?_);refine Ke Y O U T (k.push _) he hz fun h' n u z=>?_;show wpAny _ _ (Builtin.Dict.addKeywords s.heap.objs.size [] >>= _) _ _ _;exact ac (ag (ag ⟨rfl,h h' n u fun b ob e=>(z.2 b (bK (bh e))).trans (ax _ e)⟩))
end
section
variable {F:Fx S}{m:Vars}{V:Store}{X:Value->ae->Prop}{Q:AV->Store->Prop}
theorem Hb{ad:Addr}{l l':List (Af×AV)}{h':Heap}{es:List aO}{n:Nat}{s:ae}(hs:F.St m V s)(ho:V ad=some (.dict l))(k:di ad s.heap h')(e:h'.get? ad=some (AP es.toArray n))(sm:(ad == cp)=false)(nd:(l'.map (·.1)).Nodup)(r:RepD S.cv s.heap (F.D V) l' es) :
  F.St m (V.set ad (.dict l')) { s with heap:=h' }/\Step F.P F.O V s (V.set ad (.dict l')) { s with heap:=h' }:=by
 have da:Dom V ad:=by unfold Dom;rw [ho];simp
 have e0:Ext (F.D V) s.heap h':=Ext.of_but fun b o d e=>k b o (fun q=>d (.inl (q▸da))) e;obtain ⟨h1,st⟩:=hs.upd (h':=h') da (fun c o ne e=>k c o ne e) s.toks (o:=.dict l') (.dict e sm nd (r.ext e0 fun b q=>.inl (q.imp (fun q=>(A1 q).elim (fun (q:b=ad)=>by rw [q];exact da) id) id)))
 exact ⟨h1,st.any⟩
theorem CT.clearD{ad:Addr}{ii:Nat}{l:List (Af×AV)}(ho:V ad=some (.dict l))(hz:l.length<=big)(h:Q .none (V.set ad (.dict []))):CT F m V (.builtin "dict.clear") [.loc ad ii] Q X:=by
 intro U s hs r;refine X1lp U r.one fun v ra=>?_;refine X3ppppp (ra.dct hs.inv (BV ho)) fun y es n Z0 e sm nd rd=>?_;subst Z0;obtain rfl:=(b4 ra.inv).symm;have hm:DictE s.heap ad es.toArray n:=e;refine call_meetsIn (S:=fun Z R s'=>s'=s/\R (.ok (.ret .none)) { s with heap:=s.heap.update ad (f8 fun Z=>#[]) }) PySem.F.slot_dict_clear hm.typeIs PySem.F.entry_dict_clear (PySem.F.args_dict_clear_1 _) (.of_wp fun A R s' ⟨e',h⟩=>?_) ⟨rfl,?_⟩
 ·subst e'
  unfold dy.«dict.clear»;refine ac ?_;unfold Builtin.Dict.noArgs;refine ac (cF hm.typeIs ?_);show wpAny _ _ (pure ad) _ _ _;refine ag ?_;refine ac (bG hm rfl ?_);refine ac ?_;unfold bearsInstanceDictMark;refine ac (wpAny_load hm (ag ?_));refine ac (wpAny_updateDictKeys (hz:=by rw [aG,rd.length];exact A6 hz) hm rfl ?_)
  split
  ·exact ac (wpAny_letGo (ag ⟨.none,rfl,h⟩))
  ·exact ac (ag (ag ⟨.none,rfl,h⟩))
 ·have e':(s.heap.update ad (f8 fun Z=>#[])).get? ad=some (AP ([]:List aO).toArray (n+1)):=bL _ e rfl
  refine Ao (Hb (l':=[]) hs ho (bq ..).extBut e' sm .nil .nil) fun h1 st=>?_;exact ⟨_,st,h1,_,.none,h⟩
theorem GK:Jj "clear" (Ty.name .dict) "dict.clear":=⟨eZ,PySem.F.slot_dict_clear,PySem.F.type_dict_clear⟩
theorem FD{cv:Nat->Value}{h:Heap}{D:Addr->Prop}:∀{l:List (Af×AV)}{es:List aO},RepD cv h D l es->(∀e∈es,∃t,e.key=.ref t/\∃o,h.get? t=some o/\o.cls=.type "tuple")/\es.map (·.hash)=l.map fun p=>A8 p.1
 | [],es,r=>by rw [show es=[] from r.inv];exact ⟨fun Z h=>(by cases h),rfl⟩
 | p::l,es,r=>by
  refine X6lpppp es r.inv fun t tx ty n v us e d a b=>?_;refine Ao (FD b) fun h1 h2=>?_;refine ⟨fun x hx=>?_,by rw [bm,bm,h2]⟩
  rcases aD.mp hx with rfl | hx
  ·exact ⟨t,rfl,_,e,rfl⟩
  ·exact h1 x hx
theorem one_hash{es:List aO}(nd:(es.map (·.hash)).Nodup)(e:aO):(es.toArray.filter (·.hash == e.hash)).size<=1:=by
 have:(es.toArray.filter (·.hash == e.hash)).size=((es.map (·.hash)).filter (· == e.hash)).length:=by
  rw [List.filter_map];simp [Function.comp_def]
 rw [this,<- List.countP_eq_length_filter];exact List.nodup_iff_count.mp nd e.hash
theorem CT.dictCopy{a:AV}{l:List (Af×AV)}(ha:dd V a=some l)(hz:l.length<=big)(hl:l≠[])(hh:(l.map fun p=>A8 p.1).Nodup)(h:Fresh V (.dict l) (.dict l) Q):CT F m V (.type "dict") [a] Q X:=by
 intro U s hs r;refine X1lp U r.one fun v ra=>?_;refine X3lpppp v (ra.dct hs.inv ha) fun ad es n e sm nd rd=>?_;refine Ao (FD rd) fun k1 k2=>?_;have d:es.toArray≠#[]:=fun z=>hl (by
  have:=rd.length
  rw [show es=[] by simpa using z] at this
  exact List.length_eq_zero_iff.mp this.symm)
 refine Ef sm e ⟨fun x hx=>k1 x hx,fun x Z=>one_hash (by rw [k2];exact hh) x⟩ d (by rw [aG,rd.length];exact A6 hz) fun h' n' e' kp=>?_
 exact C7 (tk:=s.toks) hs kp (Ax _) e' nd rd h
end
end
section
section
variable {prog:dw}{w:World}{A:cz}{E:Value->ae->Prop}{s:ae}
theorem IG{nm:String}{a b:Addr}{xs ys:List (List Int×Addr×Value)}{U T:Array aO}{na nb:Nat}{Q:Bool->ae->Prop}(hu:(bp (bP prog w)).room A)(sa:(a == cp)=false)(sb:(b == cp)=false)
  (ha:DictE s.heap a U na) (hb:DictE s.heap b T nb) (ea:U.toList=xs.map (cX (bp (bP prog w)))) (eb:T.toList=ys.map (cX (bp (bP prog w)))) (y:∀x∈xs,(bp (bP prog w)).is s.heap x.1 x.2.1) (O:∀x∈ys,(bp (bP prog w)).is s.heap x.1 x.2.1) (Y:(ys.map (·.1)).Nodup)
  (len:xs.length=ys.length) (same:∀(i:Nat) k p,xs[i]?=some (k,p)->∃q,ys[i]?=some (k,q)/\∃z t t',p.2=.int z t/\q.2=.int z t') (h:Q true s):wpAny (model prog w) A (cB nm a b) Q E s:=by
 have la:=size_of_entries ea;have lb:=size_of_entries eb;unfold cB d4;rw [if_neg (by rw [sa];exact aH),if_neg (by rw [sb];exact aH)]
 refine ac (ag (ac (ag ?_)));refine ac (bG ha rfl ?_);refine ac (bG hb rfl ?_);rw [if_neg (by rw [la,lb,len];simp)]
 refine ac (eK ha rfl ?_);refine ac ?_;rw [eh];simp only [Std.Legacy.Range.size,Nat.sub_zero,Nat.add_sub_cancel,Nat.div_one];refine wpAny_forIn_list _ (fun B st s'=>s'=s/\st=(none,())/\∀i∈B,i<U.size) _ ?_ ?_ _ _ ⟨rfl,rfl,fun i hi=>by have:=List.mem_range'_1.mp hi;exact lin [i,U.size] [] (.c V0 V1) [.c V0 (.A K0 V1)] rfl this.2⟩
 ·intro i B st s' u
  refine X0llp s' st u fun hr=>?_;have hi:=hr i (.head _);have hr':∀j∈B,j<U.size:=fun j hj=>hr j (.tail _ hj);refine ac (bG ha rfl ?_);obtain ⟨x,hx⟩:∃x,xs[i]?=some x:=⟨xs[i]'(by exact lin [U.size,xs.length,i] [] (.c V2 V1) [.d V0 V1,.c V2 V0] rfl la hi),aE _⟩
  obtain ⟨k,p⟩:=x;refine X1pp (same i k p hx) fun q hy Z0=>?_;refine X3pp Z0 fun z t t' e1 e2=>?_;rw [entry_at ea i,hx];dsimp only [cR,cX];refine ac (bA (ac (wpAny_dictFind_heap hu (y _ (af hx)) hb rfl eb O Y (fun hn=>absurd hy (hn i q)) fun j p' hj=>?_)));have hij:j=i:=by
   have h1:(ys.map (·.1))[j]?=some k:=by rw [aW,hj];rfl
   have h2:(ys.map (·.1))[i]?=some k:=by rw [aW,hy];rfl
   exact (List.getElem?_inj (dA.mp h1).1 Y).mp (h1.trans h2.symm)
  clear u hr hi hx;subst hij;refine ac (bG hb rfl ?_);rw [entry_at eb j,hy];dsimp only [cR,cX];rw [e1,e2];refine bA (ez ?_);rw [beq_self_eq_true,if_neg (by decide)]
  refine ac (eK ha rfl ?_);rw [if_neg (by simp)]
  exact ag ⟨rfl,rfl,hr'⟩
 ·intro st s' u
  refine X0llp s' st u fun Z=>?_;exact ag h
theorem dict_eq{a b:Addr}{U T:Array aO}{na nb:Nat}{P:Fin->ae->Prop}(ha:DictE s.heap a U na)(hb:DictE s.heap b T nb)(wp:∀nm Q,Q true s->wpAny (model prog w) A (cB nm a b) Q E s)(h:P (.done (.ret (.bool true))) s):wpAny (model prog w) A (dy.«dict.__eq__» ⟨[.ref a,.ref b],[]⟩) P E s:=by
 show wpAny _ _ (dB "__eq__" ⟨[.ref a,.ref b],[]⟩ >>= _) _ _ s;refine ac ?_;unfold dB;refine ac (cF ha.typeIs ?_);show wpAny _ _ (pure (cE a,cE b)) _ _ s;refine ag ?_;show wpAny _ _ (isInstance (.ref b) (.type "dict") >>= _) _ _ s;refine ac (dK hb.typeIs gf ?_);simp only [gT,bT,if_false];show wpAny _ _ (cB _ a b >>= _) _ _ s;exact ac (wp _ _ (ag h))
theorem dict_ne{a b:Addr}{U T:Array aO}{na nb:Nat}{P:Fin->ae->Prop}(ha:DictE s.heap a U na)(hb:DictE s.heap b T nb)(wp:∀nm Q,Q true s->wpAny (model prog w) A (cB nm a b) Q E s)(h:P (.done (.ret (.bool false))) s):wpAny (model prog w) A (dy.«dict.__ne__» ⟨[.ref a,.ref b],[]⟩) P E s:=by
 show wpAny _ _ (dB "__ne__" ⟨[.ref a,.ref b],[]⟩ >>= _) _ _ s;refine ac ?_;unfold dB;refine ac (cF ha.typeIs ?_);show wpAny _ _ (pure (cE a,cE b)) _ _ s;refine ag ?_;show wpAny _ _ (isInstance (.ref b) (.type "dict") >>= _) _ _ s;refine ac (dK hb.typeIs gf ?_);simp only [gT,bT,if_false];show wpAny _ _ (cB _ a b >>= _) _ _ s;exact ac (wp _ _ (ag h))
end
section
variable {S:Sta}{F:Fx S}{m:Nat->Option AV}{V:Store}{X:Value->ae->Prop}
theorem XsOf.twin{cv:Nat->Value}{h:Heap}{D:Addr->Prop}:∀{l:List (Af×AV)}{xs ys:List (List Int×Addr×Value)},XsOf cv h D l xs->XsOf cv h D l ys->(∀p∈l,∃z,p.2=.int z)->xs.length=ys.length/\∀(i:Nat) k p,xs[i]?=some (k,p)->∃q,ys[i]?=some (k,q)/\∃z t t',p.2=.int z t/\q.2=.int z t':=by
 intro l xs ys hx hy hv
 induction hx generalizing ys with
 | nil=>cases hy;exact ⟨rfl,fun i k p h=>by cases h⟩
 | cons e d r rs ih =>
  cases hy with
  | cons e' d' r' B =>
   refine Ao (ih B fun p hp=>hv p (.tail _ hp)) fun h1 h2=>?_;refine ⟨congrArg e9 h1,fun i k p h=>?_⟩
   cases i with
   | succ i=>exact h2 i k p h
   | zero =>
    cases h
    refine X1p (hv _ (.head _)) fun z hz=>?_;dsimp only at hz;clear hv;subst hz;refine X1p r.inv fun t ht=>?_;refine X1p r'.inv fun t' y=>?_;exact ⟨_,rfl,z,t,t',ht,y⟩
theorem JH{a b:AV}{va vb:Value}{l:List (Af×AV)}{s:ae}(hs:F.St m V s)(ha:dd V a=some l)(hb:dd V b=some l)(hv:∀p∈l,∃z,p.2=.int z)(ra:Rep S.cv s.heap (F.D V) a va)(rb:Rep S.cv s.heap (F.D V) b vb) :
  ∃x y ex ey nx ny,va=.ref x/\vb=.ref y/\DictE s.heap x ex nx/\DictE s.heap y ey ny/\∀(A:cz),(bp (bP S.prog S.w)).room A->∀(E:Value->ae->Prop) nm Q,Q true s->wpAny (model S.prog S.w) A (cB nm x y) Q E s:=by
 refine X3lpppp va (ra.dct hs.inv ha) fun x ex nx e sx nd rx=>?_;refine X3lpppp vb (rb.dct hs.inv hb) fun y ey ny e' sy T ry=>?_;refine X1pp (RepD.xs (S:=S) rx) fun xs hx Z0=>?_;clear rx;subst Z0;refine X1pp (RepD.xs (S:=S) ry) fun ys hy Z1=>?_;clear ry;subst Z1;refine Ao (hx.twin hy hv) fun l1 l2=>?_;refine X3pppppp (Ee (S:=S) hx nd e) fun Z Z Z q1 Z q2 q3 q4 q5=>?_;refine X3pppppp (Ee (S:=S) hy T e') fun Z Z Z p1 Z p2 p3 p4 p5=>?_;refine ⟨x,y,_,_,nx,ny,rfl,rfl,e,e',fun A hu E nm Q h=>IG hu sx sy e e' rfl rfl q4 p4 p5 l1 l2 h⟩
theorem KT.eqDict{a b:AV}{l:List (Af×AV)}{Q:Bool->Store->Prop}(ha:dd V a=some l)(hb:dd V b=some l)(hv:∀p∈l,∃z,p.2=.int z)(h:Q true V):KT F m V .Eq a b Q X:=by
 intro va vb s hs ra rb;obtain ⟨x,y,ex,ey,nx,ny,rfl,rfl,e,e',k⟩:=JH hs ha hb hv ra rb;have hu:F.A.units<cLine:=by have:=F.room.un;unfold cLine;exact lin [F.A.units,F.k] [] (.c V0 Eh) [.c (.A V0 (.M 20 V1)) BG] rfl this
 exact d8 (op:=.Eq) e.typeIs e'.typeIs PySem.F.slot_dict_eq
  (cJ PySem.F.slot_dict_eq e.typeIs PySem.F.entry_dict_eq (dict_eq e e' (k _ (Bz F) _) ⟨_,rfl,(fun e=>nomatch e),V,Step.refl _ _ _ _,hs,_,rfl,h⟩) (PySem.F.args_dict_eq_2 _ _)) hu
theorem KT.neDict{a b:AV}{l:List (Af×AV)}{Q:Bool->Store->Prop}(ha:dd V a=some l)(hb:dd V b=some l)(hv:∀p∈l,∃z,p.2=.int z)(h:Q false V):KT F m V .NotEq a b Q X:=by
 intro va vb s hs ra rb;obtain ⟨x,y,ex,ey,nx,ny,rfl,rfl,e,e',k⟩:=JH hs ha hb hv ra rb;have hu:F.A.units<cLine:=by have:=F.room.un;unfold cLine;exact lin [F.A.units,F.k] [] (.c V0 Eh) [.c (.A V0 (.M 20 V1)) BG] rfl this
 exact d8 (op:=.NotEq) e.typeIs e'.typeIs PySem.F.slot_dict_ne
  (cJ PySem.F.slot_dict_ne e.typeIs PySem.F.entry_dict_ne (dict_ne e e' (k _ (Bz F) _) ⟨_,rfl,(fun e=>nomatch e),V,Step.refl _ _ _ _,hs,_,rfl,h⟩) (PySem.F.args_dict_ne_2 _ _)) hu
end
end
section
variable {S:Sta}
section
variable {F:Fx S}{m:Vars}{V:Store}{X:Value->ae->Prop}{Q:AV->Store->Prop}
theorem CT.setdef{ad:Addr}{ii:Nat}{k:Af}{x:AV}{l:List (Af×AV)}(ho:V ad=some (.dict l))(hz:l.length<=big)(h1:∀v,Bq l k=some v->Q v V)(h2:Bq l k=aa->Q x (V.set ad (.dict (Bo l k x)))):CT F m V (.builtin "dict.setdefault") [.loc ad ii,sp k,x] Q X:=by
 intro U s hs r;obtain ⟨v,r1,rfl,ra,r⟩:=r.inv;obtain ⟨u,y,rfl,ru,rx⟩:=r.two;refine X4lpp u ru.spot fun t tx ty n e d=>?_;refine X3ppppp (ra.dct hs.inv (BV ho)) fun z es n' Z0 e' sm nd rd=>?_;clear r;subst Z0;obtain rfl:=(b4 ra.inv).symm;refine X1pp (RepD.xs (S:=S) rd) fun xs hx Z1=>?_;subst Z1;have q:=hx.at_ k;have B:(xs.map (cX (bp (bP S.prog S.w)))).toArray.size<=fL:=by rw [aG,rd.length];exact A6 hz
 have hd:DictE s.heap ad (xs.map (cX (bp (bP S.prog S.w)))).toArray n':=e';refine call_meetsIn (S:=fun A R s'=>(bp (bP S.prog S.w)).room A.in1/\s'=s/\(∀p,atKey xs (key k)=some p->R (.ok (.ret p.2)) { s with toks:=s.toks+(bp (bP S.prog S.w)).draws (key k) })/\(atKey xs (key k)=aa->R (.ok (.ret y)) { s with heap:=s.heap.update ad (f8 (·.push ⟨A8 k,.ref t,y⟩)),toks:=s.toks+(bp (bP S.prog S.w)).draws (key k) })) f9 hd.typeIs PySem.F.entry_dict_setdefault (PySem.F.args_dict_setdefault_3 _ _ _) (.of_wp fun A R s' ⟨hu,e0,h1,h2⟩=>?_) ⟨Bz F,rfl,fun p hp=>?_,fun hn=>?_⟩
 ·subst e0
  unfold dy.«dict.setdefault»;refine ac ?_;unfold Builtin.Dict.keyAndDefault;refine ac (cF hd.typeIs ?_);show wpAny _ _ (pure (ad,cE t,some y)) _ _ _;refine ag ?_;show wpAny _ _ (if (ad == cp)=true then _ else (dictSetDefault ad (.ref t) y >>= _)) _ _ _;rw [if_neg (by rw [sm];exact aH)]
  refine ac ?_;unfold dictSetDefault;refine bA (ac ((bp (bP S.prog S.w)).pyHash hu (Ed e) ?_));have hn:=hx.keys▸Eu nd;refine ac (wpAny_dictFind_heap (s:={ s' with toks:=s'.toks+(bp (bP S.prog S.w)).draws (key k) }) hu (Ed e) e' rfl (by simp) hx.is hn (fun O=>?_) fun j p hj=>?_)
  ·exact ac (fA (ac (wpAny_updateDictKeys (hz:=B) (s:={ s' with toks:=s'.toks+(bp (bP S.prog S.w)).draws (key k) }) e' rfl (ag (ag ⟨y,rfl,h2 (atKey_none_of_get O)⟩)))))
  ·refine ac (bG (s:={ s' with toks:=s'.toks+(bp (bP S.prog S.w)).draws (key k) }) e' rfl ?_)
   have:(xs.map (cX (bp (bP S.prog S.w)))).toArray[j]?=some (cX (bp (bP S.prog S.w)) (key k,p)):=by simp [hj]
   rw [this];exact ac (fA (ag (ag ⟨p.2,rfl,h1 p (atKey_of_get hn hj)⟩)))
 ·rw [hp] at q
  cases g:Bq l k with
  | none=>rw [g] at q;exact q.elim
  | some v =>
   rw [g] at q;exact ⟨V,Step.toks _ _ _ _ _,hs.tok _,_,q,h1 v g⟩
 ·rw [hn] at q
  cases g:Bq l k with
  | some v=>rw [g] at q;exact q.elim
  | none =>
   have e2:(s.heap.update ad (f8 (·.push ⟨A8 k,.ref t,y⟩))).get? ad=some (AP ((xs++[(key k,t,y)]).map (cX (bp (bP S.prog S.w)))).toArray (n'+1)):=by
    rw [bL _ e' rfl,aP,<- List.append_toArray];rfl
   have hd:Bo l k x=l++[(k,x)]:=by unfold Bo;rw [g];exact if_neg aH
   have T:=C8 k x nd;have hh:=h2 g;rw [hd] at T hh;refine Ao (Hb (s:={ s with toks:=s.toks+(bp (bP S.prog S.w)).draws (key k) }) (l':=l++[(k,x)]) (hs.tok _) ho (bq ..).extBut e2 sm T (hx.snoc e d rx).repD) fun h1 st=>?_
   exact ⟨_,(Step.toks _ _ _ _ _).trans st,h1,_,rx.st ((Step.toks _ _ _ _ _).trans st) h1,hh⟩
theorem GH:Jj "setdefault" (Ty.name .dict) "dict.setdefault":=⟨eZ,f9,PySem.F.type_dict_setdefault⟩
theorem Kn:ixS AT "setdefault"=some 7:=by decide +kernel
end
end
section
variable {S:Sta}
theorem Kl:typeLookup (.type "list") "keys"=pure aa:=by rw [typeLookup_type,builtinLookup_eq_fast];kernel_rfl
section
variable {A:cz}{E:Value->ae->Prop}{s:ae}
theorem Km{a:Addr}{xs:Array Value}{k:Nat}{Q:Option Value->ae->Prop}(hx:s.heap.get? a=some (AB xs k))(hA:A.handled=aa)
  (h:∀h' tk,(∀b o,s.heap.get? b=some o->h'.get? b=some o)->Q aa { s with heap:=h',toks:=tk }):wpAny (model S.prog S.w) A (getAttr? (.ref a) "keys") Q E s:=by
 obtain ⟨hp,g,d,tk,os⟩:=s;have hT:∀U,(⟨hp,g,d,U,os⟩:ae).TypeIs (.ref a) "list":=fun Z=>⟨_,hx,rfl⟩;have f1:=sub_AttributeError;have f3:=dN.lookup;have f4:=dN.bind (.ref a);have f5:=am_list_getattr_none;unfold getAttr? getAttrBy? getAttrBy
 repeat (any_goals (first | assumption | exact hT _ | ((with_reducible show wpAny _ _ (call (Value.builtin "list.__getattribute__") _ _) _ _ _);refine call_meets dN (hT _) am_entry_list_getattribute (PySem.F.args_list_getattribute_2 _ _) (meets_getattribute_miss_list a xs k #[] "keys" _ Kl (by decide +kernel) (by decide)) ⟨hx,hA,fun h' U e Y=>?_⟩) | wp_step))
 refine X2p Y.there fun t' u' he=>?_;show wpAny _ _ (getattributeRaised _ _ _ _ _ _ _) _ _ _;unfold getattributeRaised
 repeat (any_goals (first | assumption | wp_step))
 exact h _ _ Y.keeps
noncomputable abbrev pvA(p:Af×AV):AV:=.tup [sp p.1,p.2]
theorem dget_key{l:List (Af×AV)}{k:Af}{x:AV}(h:Bq l k=some x):k∈l.map (·.1):=by
 refine X1pp (aY.mp h) fun p hp Z=>?_;have hf:=List.find?_some hp;have e:=of_decide_eq_true hf;exact aZ.mpr ⟨p,List.mem_of_find?_eq_some hp,e⟩
theorem RepD.snoc{cv:Nat->Value}{h:Heap}{D:Addr->Prop}{k:Af}{x:AV}{t:Addr}{tx ty:Tok}{n:Nat}{v:Value}(e:h.get? t=some (Br #[.int k.1 tx,.int k.2 ty] n))(d:¬D t)(rv:Rep cv h D x v) :
  ∀{l:List (Af×AV)}{es:List aO},RepD cv h D l es->RepD cv h D (l++[(k,x)]) (es++[⟨A8 k,.ref t,v⟩])
 | [],es,r=>by rw [show es=[] from r.inv];exact .cons e d rv .nil
 | p::l,es,r=>by
  refine X6lpppp es r.inv fun Z Z Z Z Z us a b c r'=>?_;exact .cons a b c (RepD.snoc e d rv r')
theorem EB:entryFor table "dict.update.loop"=some dy.«dict.update.loop»:=entryFor_of_tree (by kernel_rfl)
theorem Er:plainId "dict.update.loop"=true:=by decide +kernel
theorem Go{cv:Nat->Value}{D:Addr->Prop}{h0:Heap}{d it l:Addr}{us:List Value}{n0:Nat}{R:Except Value Flow->ae->Prop}(nd:h0.get? d=aa)(ni:h0.get? it=aa)(y:it≠d)(hl:h0.get? l=some (AB us.toArray n0))(hA:A.handled=aa)(hu1:(bp (bP S.prog S.w)).room A.in1) :
  ∀{r:List (Af×AV)}{i:Nat}{done:List (Af×AV)}{es:List aO}{nn:Nat}{s:ae},RepL cv h0 D (r.map pvA) (us.drop i)->(∀b o,h0.get? b=some o->s.heap.get? b=some o)->s.heap.IsListIter it l i->s.heap.get? d=some (AP es.toArray nn)->RepD cv h0 D done es->((done++r).map (·.1)).Nodup->done.length+r.length<=big ->
  (∀h' tk B n',(∀b o,h0.get? b=some o->h'.get? b=some o)->h'.get? d=some (AP (aA B) n')->RepD cv h0 D (done++r) B->R (.ok (.ret .none)) { s with heap:=h',toks:=tk }) ->
  codeAny (model S.prog S.w) A (.builtin "dict.update.loop" ⟨[.ref d,.ref it,.int i 0,.none],[]⟩) R s:=by
 intro r
 induction r with
 | nil =>
  intro i done es nn s rr kp O hd rd nk hz hR;refine fW EB ?_;rw [Around.under_plainId Er];have ui:us.toArray[i]?=aa:=by
   have:us.drop i=[]:=rr.inv
   have:=List.drop_eq_nil_iff.mp this
   simpa using this
  unfold dy.«dict.update.loop»;refine ac (wpAny_pyNext_list_end (l:=l) (items:=us.toArray) hA O ⟨_,kp _ _ hl,rfl,n0,rfl⟩ ui fun h' he=>?_);refine ac (ag (ag (hR h' _ es nn (fun b o q=>he b o (fun z=>Ak ni (z▸q)) (kp b o q)) (he _ _ (fJ y) hd) ?_)));rw [aM];exact rd
 | cons p r ih =>
  intro i done es nn s rr kp O hd rd nk hz hR;refine X2ppp rr.inv fun v vs ev rp rr'=>?_;refine X3pppp rp.inv fun t ws nt Z0 et dt U=>?_;clear rp;subst Z0;refine X2ppp U.two fun kv xv Z1 rk rx=>?_;clear U;subst Z1;refine X4ppp rk.spot fun ta tx ty n1 Z2 ek dk=>?_;subst Z2;have ui:us[i]?=some (.ref t):=by
   have:=congrArg (·[0]?) ev
   simpa using this
  have ud:us.drop (i+1)=vs:=by rw [<- List.drop_drop,ev];rfl
  refine fW EB ?_;rw [Around.under_plainId Er];unfold dy.«dict.update.loop»;refine ac (wpAny_pyNext_list_item (l:=l) (items:=us.toArray) O ⟨_,kp _ _ hl,rfl,n0,rfl⟩ (x:=.ref t) (by simpa using ui) fun h' hit' Y=>?_)
  have u:∀b o,h0.get? b=some o->h'.get? b=some o:=fun b o q=>Y.extBut b o (fun z=>Ak ni (z▸q)) (kp b o q);have hd':h'.get? d=some (AP es.toArray nn):=Y.extBut _ _ (fJ y) hd;refine ac (bA (ac (wpAny_tryCatch ?_)));unfold Builtin.Dict.pairItems;refine ac (wpAny_typeOf (T := "tuple") ⟨_,u _ _ et,rfl⟩ ?_);rw [if_pos (by decide)]
  refine ac (wpAny_seqItems (u _ _ et) rfl (ag ?_));show wpAny _ _ (holding [cE ta,xv] (dictSet d (.ref ta) xv)) _ _ _;refine X1pp (RepD.xs (S:=S) (rd.ext (Ext.of_keeps u) (D':=D) fun b q=>.inl q)) fun xs hx Z3=>?_;clear hd;subst Z3;have hn:p.1∉done.map (·.1):=by
   rw [aP,bF] at nk;exact fun q=>nk.2.2 _ q _ (.head _) rfl
  have hnd:(done.map (·.1)).Nodup:=by
   rw [aP,bF] at nk;exact nk.1
  have gn:Bq done p.1=aa:=by
   cases q:Bq done p.1 with
   | none=>rfl
   | some z=>exact (hn (dget_key q)).elim
  refine bA (wpAny_dictSet_heap hu1 (Ed (u _ _ ek)) (Ee hx hnd hd') (fun h2 hm sb=>?_) (by have:=rd.length;simp at this;rw [this];exact A6 (by exact lin [done.length,(p::r).length,big] [] (.b V0 V2) [.b (.A V0 V1) V2] rfl hz)))
  refine X1p (BU hm) fun n2 e2=>?_;have ak:atKey xs (key p.1)=aa:=by
   have:=Dc hx p.1
   rw [gn] at this
   cases q:atKey xs (key p.1) with
   | none=>rfl
   | some z=>rw [q] at this;cases this
  rw [storedH_new ak,aP] at e2;refine ag ⟨Code.quiet_builtin _ (by decide +kernel),?_⟩
  refine ih (i:=i+1) (done:=done++[p]) (by rw [ud];exact rr') (fun b o q=>sb.extBut b o (fun z=>Ak nd (z▸q)) (u b o q)) (hit'.extBut sb.extBut y) e2 ?_ (by rw [aI];exact nk) (by rw [ao];simp at hz ⊢;exact lin [done.length,r.length,big] [] (.b (.A (.A V0 K1) V1) V2) [.b (.A V0 (.A V1 K1)) V2] rfl hz) fun h3 tk B n' k3 g3 r3=>?_
  ·exact RepD.snoc ek dk rx rd
  ·rw [aI] at r3
   exact hR h3 tk B n' k3 g3 r3
theorem F5{cv:Nat->Value}{D:Addr->Prop}{l:Addr}{us:List Value}{n0:Nat}{r:List (Af×AV)}{Q:Value->ae->Prop}(hl:s.heap.get? l=some (AB us.toArray n0))(hA:A.handled=aa)(hu:(bp (bP S.prog S.w)).room A.in1.in1)
  (rr:RepL cv s.heap D (r.map pvA) us) (nk:(r.map (·.1)).Nodup) (hz:r.length<=big)
  (h:∀h' tk es n,(∀b o,s.heap.get? b=some o->h'.get? b=some o)->h'.get? s.heap.objs.size=some (AP (aA es) n)->RepD cv s.heap D r es->Q (.ref s.heap.objs.size) { s with heap:=h',toks:=tk }):wpAny (model S.prog S.w) A (call (.type "dict") [.ref l]) Q E s:=by
 refine callType_codes (Q₁:=fun d Ac=>d=.ref s.heap.objs.size/\Ac={ s with heap:=s.heap.push { cls:=.type "dict",data:=.dict #[] } }) PySem.F.kt_called_dict (gy _) PySem.F.entry_dict_init (kt_code_dict_new _ ⟨rfl,rfl⟩) ?_
 intro d Ac u;refine X0ll d Ac u ?_;have nd:=Ax s.heap;have U:DictE (s.heap.push { cls:=.type "dict",data:=.dict #[] }) s.heap.objs.size #[] 0:=aF _ rfl;have Y:(s.heap.push { cls:=.type "dict",data:=.dict #[] }).get? l=some (AB us.toArray n0):=ax _ hl;refine ⟨U.typeIs,gY _ _,?_⟩;unfold dy.«dict.__init__»;refine ac ?_;unfold hU;refine ac (cF U.typeIs ?_);show wpAny _ _ (pure (s.heap.objs.size,[cE l])) _ _ _;refine ag ?_;show wpAny _ _ (dM "dict.__init__" s.heap.objs.size (.ref l) [] .none) _ _ _;unfold dM;refine ac (wpAny_typeOf (T := "list") ⟨_,Y,rfl⟩ ?_);rw [if_pos (by decide)]
 refine ac (Km Y hA fun h1 tk k1=>?_);refine ac (fA (ac (ff (items:=us.toArray) ⟨_,k1 _ _ Y,rfl,n0,rfl⟩ ?_)));refine ag ⟨Code.quiet_builtin _ (by decide +kernel),?_⟩
 have k0:∀b o,s.heap.get? b=some o->h1.get? b=some o:=fun b o q=>k1 b o (ax _ q);have B:=k1 _ _ U;have ni:h1.get? h1.objs.size=aa:=Ax h1;refine Go (S:=S) (A:=A.in1) (s:={ s with heap:=h1.push { cls:=.type "list_iterator",data:=.fields #[.ref l,.int 0 0] },toks:=tk }) (r:=r) (i:=0) (done:=[]) (es:=[]) (nn:=0) nd (it:=h1.objs.size) ?_ ?_ hl hA hu rr (fun b o q=>ax _ (k0 b o q)) ⟨_,aF _ rfl,rfl,rfl⟩ (ax _ B) .nil nk (by simpa using hz) fun h' tk y n' kp g rd=>?_
 ·cases q:s.heap.get? h1.objs.size with
  | none=>rfl
  | some o=>exact (Ak ni (k0 _ _ q)).elim
 ·exact fun e=>Ak ni (by rw [e];exact B)
 ·exact ⟨rfl,h h' tk y n' kp g rd⟩
end
section
variable {F:Fx S}{m:Vars}{V:Store}{X:Value->ae->Prop}{Q:AV->Store->Prop}
theorem CT.dictOf{a:AV}{l:List (Af×AV)}(hq:S.hx=aa)(ha:dl V a=some (l.map pvA))(hz:l.length<=big)(nk:(l.map (·.1)).Nodup)(h:Fresh V (.dict l) (.dict l) Q):CT F m V (.type "dict") [a] Q X:=by
 intro U s hs r;refine X1lp U r.one fun v ra=>?_;refine X3lpp v (ra.lst hs.inv ha) fun ad vs n e rl=>?_;refine F5 e (F.room.quiet hq) ?_ rl nk hz fun h' tk es n' kp g rd=>?_
 ·show F.A.in1.in1.units<cLine
  have:=F.room.un;unfold cLine;simp;exact lin [F.A.units,F.k] [] (.c (.A (.A V0 K1) K1) Eh) [.c (.A V0 (.M 20 V1)) BG] rfl this
 ·exact C7 (tk:=tk) hs kp (Ax _) g nk rd h
end
end
section
section
variable {prog:dw}{w:World}{A:cz}{E:Value->ae->Prop}{s:ae}
theorem C1{sl:Addr}{u:Tok}{Q:Int×Int×Nat->ae->Prop}(hs:s.heap.IsSliceOf sl .none .none (.int (-1) u))(h:Q (1,-1,2) s) :
  wpAny (model prog w) A (gz (.ref sl) (pure (2:Int))) Q E s:=by
 refine X1ppp (id hs) fun os z d T=>?_;unfold gz Builtin.Slice.sliceFields;refine ac (ac (eU z T (x:=.none) rfl (ac (eU z T (x:=.none) rfl (ac (eU z T (x:=.int (-1) u) rfl (ag ?_)))))));refine ac (slicePart_int ?_);show wpAny _ _ (if ((-1:Int) == 0)=true then _ else _) _ _ s;rw [if_neg (by decide)]
 refine ac (slicePart_none (ac (slicePart_none (ac (ag ?_)))));exact ag h
theorem FQ{t sl:Addr}{x y:Value}{n:Nat}{u:Tok}{Q:Value->ae->Prop}(ht:IsTup s.heap t #[x,y])(hs:s.heap.IsSliceOf sl .none .none (.int (-1) u))
  (h:Q (.ref s.heap.objs.size) { s with heap:=s.heap.push { cls:=.type "tuple",data:=.seq #[y,x] } }):wpAny (model prog w) A (getItem (.ref t) (.ref sl)) Q E s:=by
 have T:sizeOk (.seq #[y,x]):=by show 2<=fL;decide
 refine X1ppp (id hs) fun os z d O=>?_;have Y:s.TypeIs (.ref sl) "slice":=⟨os,z,d⟩;unfold getItem
 try with_reducible refine bA ?_
 first | refine ac (ag ?_) | skip
 refine ac (wpAny_sequenceKey ht.typeIs (by decide) ?_)
 refine ac (dJ (name:=bX "__getitem__") ht.typeIs gA
  (cJ gA ht.typeIs entry_tuple_getitem ?_ (args_tuple_getitem _ _)))
 show wpAny _ _ (Builtin.Tuple.tupleItemsOf (.ref t) >>= _) _ _ s;refine ac (tupleItemsOf_ ht ?_);refine ac (wpAny_typeOf Y ?_);rw [if_pos (by decide)]
 refine ac (C1 hs ?_);show wpAny _ _ (if ((1:Int) == 0 && (-1:Int) == 1 && (2:Nat) == 2)=true then _ else _) _ _ s;rw [if_neg (by decide)]
 show wpAny _ _ (c5 #[y,x] >>= _) _ _ s
 first
  | exact ac (m:=c5 _) (bY (ag ⟨_,rfl,ag h⟩) T)
  | exact ac (m:=c5 _) (bY (ac (ag (ag ⟨_,rfl,ag h⟩))) T)
  | exact ac (ac (m:=c5 _) (bY (ag (ag ⟨_,rfl,ag h⟩)) T))
  | exact ac (ac (m:=c5 _) (bY (ag ⟨_,rfl,ag h⟩) T))
end
section
variable {S:Sta}{F:Fx S}{m:Vars}{V:Store}{X:Value->ae->Prop}{Q:AV->Store->Prop}
theorem tup_push{h:Heap}{t:Addr}{items:Array Value}{n:Nat}(e:h.get? t=some (Br items n))(o:Obj):IsTup (h.push o) t items:=⟨_,ax _ e,rfl,n,rfl⟩
theorem new_two(h:Heap)(o:Obj):h.get? (h.push o).objs.size=aa:=by
 rw [cG]
 cases q:h.get? (h.objs.size+1) with
 | none=>rfl
 | some o=>exact absurd (bh q) (cO.mpr (fO _))
theorem ET.back{o:E}(h:ET F m V o (fun a Aa=>∃x y,a=.tup [x,y]/\Q (.tup [y,x]) Aa) X):ET F m V (.slice o .none .none (.neg (.int 1))) Q X:=by
 intro pe hc s hs;refine X6lpppp pe hc.inv fun po T phi U p q ho hlo hhi Y=>?_;refine Subscript_ ((h _ ho s hs).out ?_);intro va Aa Ac Ai Ad B;obtain ⟨a,ra,x,y,rfl,hq⟩:=B;show wpAny _ _ (do
  let l <- valueOrNone (evalOpt T F.env)
  let u <- holding [l] (valueOrNone (evalOpt phi F.env))
  let s <- holding [l,u] (valueOrNone (evalOpt U F.env))
  newFields "slice" [l,u,s]) _ _ _
 refine ac ((optE (Q:=fun v V=>v=.none/\V=Aa) (ET.none ⟨rfl,rfl⟩) hlo Ad).out ?_);intro vx Ab Aj An Ah B;obtain ⟨_,rx,rfl,rfl⟩:=B;refine ac (bA ((optE (Q:=fun v V=>v=.none/\V=Ab) (ET.none ⟨rfl,rfl⟩) hhi Ah).out ?_));intro vy Ap BB A0 AI B;obtain ⟨_,ry,rfl,rfl⟩:=B;refine ac (bA ((optE (Q:=fun v V=>v=.int (-1)/\V=Ap) (ET.neg (ET.int ⟨1,rfl,rfl,rfl⟩)) Y AI).out ?_));intro vz Cd Bw BM Bx B;obtain ⟨_,rz,rfl,rfl⟩:=B;obtain rfl:=rx.inv;obtain rfl:=ry.inv;refine X1l vz rz.inv fun u=>?_;refine X3lppp va ((((ra.st An Ah).st A0 AI).st BM Bx).inv) fun t vs n e d rl=>?_;refine X2ppp rl.two fun v1 v2 Z0 r1 r2=>?_;clear rl;subst Z0;obtain ⟨z,rfl,hz⟩:∃z,U=some z/\CE F.tb F.sc z (.neg (.int 1)):=by
  rcases Y.inv with ⟨_,e'⟩ | ⟨z,rfl,hz⟩
  ·cases e'
  ·exact ⟨z,rfl,hz⟩
 refine bY ?_ (by size_fits)
 have ht:=tup_push e { cls:=.type "slice",data:=.fields #[.none,.none,.int (-1) u] };refine tail_any (ops:=[.ref t,.ref Bw.heap.objs.size]) ht.typeIs gA.lookup (FQ (n:=n) ht (Heap.IsSliceOf.new ..) ?_) rfl;refine Ao (Bx.grow (h':=(Bw.heap.push { cls:=.type "slice",data:=.fields #[.none,.none,.int (-1) u] }).push { cls:=.type "tuple",data:=.seq #[v2,v1] }) (fun b o e=>ax _ (ax _ e)) Bw.toks) fun h5 O=>?_;refine ⟨Cd,(((Ai.trans An).trans A0).trans BM).trans O.any,h5,_,.tup (vs:=[v2,v1]) (aF _ rfl) (fun dd=>?_) (.cons (r2.st O.any h5) (.cons (r1.st O.any h5) .nil)),hq⟩;exact Bx.inv.not_D (new_two _ _) dd
end
end
section
set_option genCtorIdx false in
inductive Sh where
 | val (v:AV)
 | new (j:Nat)
 | tup (l:List Sh)
 | list (l:List Sh)
noncomputable abbrev Sh.ctorIdx(x:Sh):Nat:=@Sh.casesOn (fun _=>Nat) x (fun _=>0) (fun _=>1) (fun _=>2) (fun _=>3)
structure RT where
 os:List AObj
 sh:Sh
noncomputable abbrev KR:=RT->LS->Prop
set_option genCtorIdx false in
inductive Rs where
 | val
 | new
 | tup (l:List Rs)
 | list (l:List Rs)
noncomputable abbrev Rs.ctorIdx(x:Rs):Nat:=@Rs.casesOn (fun _=>Nat) x 0 1 (fun _=>2) (fun _=>3)
structure FS where
 pure:List AV->Option AV
 spec:List AV->LS->KR->XL->Prop
 whole:Bool
structure Tab where
 q:Bool
 ex:List Nat
 fn:List (Nat×FS)
 me:List (Nat×FS)
 ky:List (Nat×(AV->Option Af)):=[]
noncomputable def Gq{α:Type}:List (Nat×α)->Nat->Option α
 | [],_=>aa
 | (j,x)::r,i=>match cw i j with
  | true=>some x
  | false=>Gq r i
noncomputable def frz:AObj->AV
 | .list l=>.list l
 | .dict l=>.dict l
 | _=>.none
mutual
noncomputable def Sh.with(f:Nat->AV):Sh->AV
 | .val v=>v
 | .new j=>f j
 | .tup l=>.tup (Sh.withL f l)
 | .list l=>.list (Sh.withL f l)
noncomputable def Sh.withL(f:Nat->AV):List Sh->List AV
 | []=>[]
 | x::r=>Sh.with f x::Sh.withL f r
end
noncomputable def frzN:List AObj->Nat->AV
 | [],_=>.none
 | o::_,0=>frz o
 | _::r,j+1=>frzN r j
noncomputable def LJ:List AObj->Nat->LS->List AV->(List AV->LS->Prop)->Prop
 | [],_,V,acc,k=>k acc V
 | o::r,i,V,acc,k=>∀a,LJ r (i+1) (V.set i (.at a o)) (acc++[.loc a i]) k
noncomputable def giveW(mu:Option Nat)(r:RT)(V:LS)(K:KV):Prop:=match mu with
 | aa=>K (r.sh.with (frzN r.os)) V
 | some i=>LJ r.os i V [] (fun vs V'=>K (r.sh.with (fun j=>vs.getD j .none)) V')
noncomputable def quiet(q:Bool)(P:Prop):Prop:=match q with
 | true=>P
 | false=>False
noncomputable def frW(mu:Option Nat)(o:AObj)(fz:AV)(V:LS)(K:KV):Prop:=match mu with
 | aa=>K fz V
 | some i=>∀a,K (.loc a i) (V.set i (.at a o))
noncomputable def cnd(lit:Bool)(P R:Prop):Prop:=match lit with
 | true=>R
 | false=>P/\R
noncomputable def ifW(b:Bool)(A B:Prop):Prop:=match b with
 | true=>A
 | false=>B
noncomputable def boolW(a:AV)(K:Bool->Prop):Prop:=match a with
 | .bool b=>K b
 | _=>False
noncomputable def dlW(V:LS)(v:AV)(K:List AV->Prop):Prop:=match v with
 | .list l=>K l
 | .loc a i=>(match slot V i with
  | .at b (.list l)=>b=a/\K l
  | _=>False)
 | _=>False
noncomputable def ddW(V:LS)(v:AV)(K:List (Af×AV)->Prop):Prop:=match v with
 | .dict l=>K l
 | .loc a i=>(match slot V i with
  | .at b (.dict l)=>b=a/\K l
  | _=>False)
 | _=>False
noncomputable def spotW(a:AV)(K:Af->Prop):Prop:=match spot? a with
 | some k=>K k
 | aa=>False
noncomputable def vwW(V:LS)(v:AV)(K:AV->Prop):Prop:=match v with
 | .loc a i=>(match slot V i with
  | .at b (.list l)=>b=a/\K (.list l)
  | .at b (.dict l)=>b=a/\K (.dict l)
  | _=>False)
 | v=>K v
noncomputable def E.nat?:E->Option Nat
 | .int i=>(match i with
  | .ofNat n=>some n
  | .negSucc _=>aa)
 | _=>aa
noncomputable def lit(e:E):Bool:=match e.nat? with
 | some n=>(match n with
  | 0=>false
  | n+1=>gI n 1000000)
 | aa=>false
noncomputable def lit0(e:E):Bool:=match e.nat? with
 | some n=>gI n 1000000
 | aa=>false
noncomputable def addW(mu:Option Nat)(a b:AV)(V:LS)(K:KV):Prop:=match a with
 | .int x=>(match b with
  | .int y=>K (.int (x+y)) V
  | _=>False)
 | .str x=>(match b with
  | .str y=>x.length+y.length<=big/\K (.str (x++y)) V
  | _=>False)
 | a=>dlW V a fun l=>dlW V b fun k=>l.length+k.length<=big/\frW mu (.list (l++k)) (.list (l++k)) V K
noncomputable def mulW(mu:Option Nat)(a b:AV)(V:LS)(K:KV):Prop:=match b with
 | .int y=>(match a with
  | .int x=>IntMulOk x y/\K (.int (x * y)) V
  | .str x=>MulOk x y/\K (.str (dW x y)) V
  | _=>False)
 | _=>False
noncomputable def int2(a b:AV)(K:Int->Int->Prop):Prop:=match a with
 | .int x=>(match b with
  | .int y=>K x y
  | _=>False)
 | _=>False
noncomputable def binW(li:Bool)(mu:Option Nat)(op:hV)(a b:AV)(V:LS)(K:KV):Prop:=match op with
 | .Add=>addW mu a b V K
 | .Sub=>int2 a b fun x y=>K (.int (x - y)) V
 | .Mult=>mulW mu a b V K
 | .Mod=>int2 a b fun x y=>cnd li (y≠0) (K (.int (x.fmod y)) V)
 | .FloorDiv=>int2 a b fun x y=>cnd li (y≠0/\y.natAbs<1073741824) (K (.int (x.fdiv y)) V)
 | _=>False
noncomputable def EqP0(a b:AV)(t:Bool):Prop:=∃da db,Gm a=some da/\Gm b=some db/\dE da=true/\dE db=true/\eN da db=t
inductive EqP(a b:AV)(t:Bool):Prop
 | py (h:EqP0 a b t):EqP a b t
 | dict (l:List (Af×AV))(ea:a=.dict l)(eb:b=.dict l)(hv:∀p∈l,∃z,p.2=.int z)(ht:t=true):EqP a b t
noncomputable def InP(a b:AV)(t:Bool):Prop:=∃d xs,Gm a=some d/\(Gm b=some (.list xs)\/Gm b=some (.tuple xs))/\ct xs=true/\d.canLay0=true/\d.depth<=100/\(xs.any fun y=>eN y d)=t
noncomputable def eqW(a b:AV)(V:LS)(K:Bool->Prop):Prop:=match a with
 | .int x=>(match b with
  | .int y=>K (x == y)
  | b=>vwW V b fun b'=>∃t,EqP (.int x) b' t/\K t)
 | a=>vwW V a fun a'=>vwW V b fun b'=>∃t,EqP a' b' t/\K t
noncomputable def InV(V:LS)(a b:AV)(t:Bool):Prop:=match b with
 | .dict l=>spotW a fun k=>(Bq l k).isSome=t
 | .str x=>(match a with
  | .str y=>eu x y=t
  | _=>False)
 | .loc ad i=>(match slot V i with
  | .at b' (.dict l)=>b'=ad/\spotW a fun k=>(Bq l k).isSome=t
  | .at b' (.list l)=>b'=ad/\InP a (.list l) t
  | _=>False)
 | b=>InP a b t
noncomputable def inW(a b:AV)(V:LS)(K:Bool->Prop):Prop:=∃t,InV V a b t/\K t
noncomputable def isW(a b:AV)(K:Bool->Prop):Prop:=match b with
 | .none=>(match a with
  | .none=>K true
  | .cls _=>False
  | _=>K false)
 | .bool c=>(match a with
  | .bool b=>K (b == c)
  | _=>False)
 | _=>False
noncomputable def ltW(a b:AV)(K:Bool->Prop):Prop:=match a with
 | .tup l=>spotW (.tup l) fun p=>spotW b fun q=>K (AL p q)
 | a=>int2 a b fun x y=>K (decide (x<y))
noncomputable def cmpW(op:CmpOp)(a b:AV)(V:LS)(K:Bool->Prop):Prop:=match op with
 | .Eq=>eqW a b V K
 | .NotEq=>eqW a b V fun t=>K (!t)
 | .Lt=>ltW a b K
 | .LtE=>int2 a b fun x y=>K (decide (x<=y))
 | .Gt=>int2 a b fun x y=>K (decide (y<x))
 | .In=>inW a b V K
 | .NotIn=>inW a b V fun t=>K (!t)
 | .Is=>isW a b K
 | .IsNot=>isW a b fun t=>K (!t)
 | _=>False
noncomputable def idxW(li:Bool)(i:AV)(K:Nat->Prop):Prop:=match i with
 | .int k=>cnd li (0<=k/\k<1000000) (K k.toNat)
 | _=>False
noncomputable def subW(li:Bool)(a i:AV)(V:LS)(K:KV):Prop:=match a with
 | .tup l=>idxW li i fun n=>(match l[n]? with
  | some x=>K x V
  | aa=>False)
 | .str x=>idxW li i fun n=>∃c,x.cps[n]?=some c/\K (.str ⟨#[c]⟩) V
 | .nums l=>idxW li i fun n=>∃x,l[n]?=some x/\K (.int x) V
 | .list l=>idxW li i fun n=>∃x,l[n]?=some x/\K x V
 | .dict l=>spotW i fun k=>∃x,Bq l k=some x/\K x V
 | .loc ad j=>(match slot V j with
  | .at b (.list l)=>b=ad/\idxW li i fun n=>∃x,l[n]?=some x/\K x V
  | .at b (.dict l)=>b=ad/\spotW i fun k=>∃x,Bq l k=some x/\K x V
  | _=>False)
 | _=>False
noncomputable def HD(lo hi st:E):Bool:=match lo with
 | .none=>(match hi with
  | .none=>(match st with
   | .neg x=>(match x.nat? with
    | some n=>cw n 1
    | aa=>false)
   | _=>false)
  | _=>false)
 | _=>false
noncomputable def backW(a:AV)(V:LS)(K:KV):Prop:=match a with
 | .tup l=>(match two? l with
  | some p=>K (.tup [p.2,p.1]) V
  | aa=>False)
 | _=>False
noncomputable abbrev Ft(t o:AV):List (Str×AV):=[("texts",t),("own",o)]
noncomputable def Slot.obj?:Slot->Option (Addr×AObj)
 | .at a o=>some (a,o)
 | .no=>aa
noncomputable def fields?(V:LS)(i:Nat):Option ((Addr×Addr)×Addr×List (Str×AV)):=(slot V i).obj?.bind fun b=>b.2.inst?.bind fun d=>(slot V (i+1)).obj?.bind fun c=>c.2.attrs?.bind fun l=>some ((b.1,d),c.1,l)
noncomputable def instW(V:LS)(a:AV)(K:AV->AV->Prop):Prop:=match a with
 | .inst l=>(match two? l with
  | some p=>(p.1.1 = "texts"/\p.2.1 = "own")/\K p.1.2 p.2.2
  | aa=>False)
 | .loc x i=>(match fields? V i with
  | some f=>(match two? f.2.2 with
   | some p=>(f.1.1=x/\f.2.1=f.1.2/\p.1.1 = "texts"/\p.2.1 = "own")/\K p.1.2 p.2.2
   | aa=>False)
  | aa=>False)
 | _=>False
noncomputable def attrW(n:Nat)(a:AV)(V:LS)(K:KV):Prop:=instW V a fun t o=>match n with
 | 11=>noCls t=true/\K t V
 | 12=>noCls o=true/\K o V
 | _=>False
noncomputable def tyW(V:LS):AV->Option Ty
 | .none=>some .none
 | .bool _=>some .bool
 | .int _=>some .int
 | .str _=>some .str
 | .tup _=>some .tup
 | .list _=>some .list
 | .dict _=>some .dict
 | .loc _ i=>(match slot V i with
  | .at _ (.list _)=>some .list
  | .at _ (.dict _)=>some .dict
  | _=>aa)
 | _=>aa
noncomputable def atW(V:LS)(a:AV)(P:Prop):Prop:=match a with
 | .loc x i=>(match slot V i with
  | .at b _=>b=x/\P
  | .no=>False)
 | _=>P
noncomputable def lenW(a:AV)(V:LS)(K:KV):Prop:=match a with
 | .str x=>x.length<=big/\K (.int x.length) V
 | .tup l=>l.length<=big/\K (.int l.length) V
 | .nums l=>l.length<=big/\K (.int l.length) V
 | .list l=>l.length<=big/\K (.int l.length) V
 | .dict l=>l.length<=big/\K (.int l.length) V
 | .loc ad i=>(match slot V i with
  | .at b (.list l)=>b=ad/\l.length<=big/\K (.int l.length) V
  | .at b (.dict l)=>b=ad/\l.length<=big/\K (.int l.length) V
  | _=>False)
 | _=>False
noncomputable def isi?(V:LS)(a:AV)(j:Nat):Option Bool:=(tyW V a).bind fun t=>(tyCls j).bind fun u=>match isP t u with
 | true=>some (isT t u)
 | false=>aa
noncomputable def isiW(ex:List Nat)(a c:AV)(V:LS)(K:KV):Prop:=match c with
 | .cls j=>atW V a (match isi? V a j with
   | some b=>K (.bool b) V
   | aa=>False)
 | _=>False
noncomputable def listW(q:Bool)(mu:Option Nat)(a:AV)(V:LS)(K:KV):Prop:=match a with
 | .tup l=>l.length<=big/\frW mu (.list l) (.list l) V K
 | .list l=>l.length<=big/\frW mu (.list l) (.list l) V K
 | .dict l=>quiet q (l.length<=big/\frW mu (.list (l.map fun p=>sp p.1)) (.list (l.map fun p=>sp p.1)) V K)
 | .loc ad i=>(match slot V i with
  | .at b (.list l)=>b=ad/\l.length<=big/\frW mu (.list l) (.list l) V K
  | .at b (.dict l)=>b=ad/\quiet q (l.length<=big/\frW mu (.list (l.map fun p=>sp p.1)) (.list (l.map fun p=>sp p.1)) V K)
  | _=>False)
 | _=>False
noncomputable def ints?:List AV->Option (List Int)
 | []=>some []
 | a::r=>a.int?.bind fun x=>(ints? r).bind fun l=>some (x::l)
noncomputable def rngW(V:LS)(K:KV):List Int->Prop
 | []=>False
 | a::r=>(match r with
  | []=>K (.range 0 a 1) V
  | b::r=>(match r with
   | []=>K (.range a b 1) V
   | c::r=>(match r with
    | []=>c≠0/\c.natAbs<1073741824/\K (.range a b c) V
    | _::_=>False)))
noncomputable def JU(avs:List AV)(V:LS)(K:KV):Prop:=match ints? avs with
 | some l=>rngW V K l
 | aa=>False
noncomputable def buW(q:Bool)(ex:List Nat)(mu:Option Nat)(i:Nat)(avs:List AV)(V:LS)(K:KV):Prop:=match i with
 | 0=>(match avs with
  | [a]=>lenW a V K
  | _=>False)
 | 1=>(match avs with
  | [a,c]=>isiW ex a c V K
  | _=>False)
 | 5=>(match avs with
  | [a]=>listW q mu a V K
  | _=>False)
 | 7=>(match avs with
  | [a]=>(ddW V a fun l=>(l.length<=big/\l≠[]/\(l.map fun p=>A8 p.1).Nodup)/\frW mu (.dict l) (.dict l) V K)\/quiet q (dlW V a fun L=>∃l,L=l.map pvA/\(l.length<=big/\(l.map (·.1)).Nodup)/\frW mu (.dict l) (.dict l) V K)
  | _=>False)
 | 8=>JU avs V K
 | 11=>(match avs with
  | [a]=>quiet q (spotW a fun p=>(p.1.natAbs<=1000000/\p.2.natAbs<=1000000)/\K (.int (p.1+p.2)) V)
  | _=>False)
 | 13=>(match avs with
  | [a,b]=>quiet q (int2 a b fun x y=>K (.int (min x y)) V)
  | _=>False)
 | 14=>(match avs with
  | [a,b]=>quiet q (int2 a b fun x y=>K (.int (max x y)) V)
  | _=>False)
 | 15=>(match avs with
  | [a]=>quiet q (dlW V a fun l=>∃bs:List Bool,l=bs.map .bool/\K (.bool (bs.all id)) V)
  | _=>False)
 | 16=>(match avs with
  | [a]=>quiet q (dlW V a fun l=>∃bs:List Bool,l=bs.map .bool/\K (.bool (bs.any id)) V)
  | _=>False)
 | _=>False
noncomputable def Bs:List AV->Nat->List AV
 | [],_=>[]
 | x::r,n=>(match x with
  | .loc a _=>.loc a n::Bs r (n+1)
  | x=>x::Bs r n)
noncomputable def AZ:List AV->List Nat
 | []=>[]
 | x::r=>(match x with
  | .loc _ i=>i::AZ r
  | _=>AZ r)
noncomputable def J5:List Nat->Bool
 | []=>true
 | i::r=>!(r.any (cw i)) && J5 r
noncomputable def wb(V:LS):List Nat->LS->LS
 | [],_=>V
 | i::r,s::t=>wb (V.set i s) r t
 | i::r,[]=>wb (V.set i .no) r []
noncomputable def ownW(f:FS)(mu:Option Nat)(avs:List AV)(V:LS)(K:KV)(X:XL):Prop:=match f.pure avs with
 | some v=>K v V
 | aa=>(match f.whole with
  | true=>f.spec avs V (fun r V'=>giveW mu r V' K) X
  | false=>(match J5 (AZ avs) with
   | true=>f.spec (Bs avs 0) ((AZ avs).map (slot V)) (fun r V'=>giveW mu r (wb V (AZ avs) V') K) (fun c V'=>X c (wb V (AZ avs) V'))
   | false=>False))
noncomputable def callW(Φ:Tab)(X:XL)(mu:Option Nat)(i:Nat)(avs:List AV)(V:LS)(K:KV):Prop:=match gI i 17 with
 | true=>buW Φ.q Φ.ex mu i avs V K
 | false=>(match Gq Φ.fn i with
  | some f=>ownW f mu avs V K X
  | aa=>False)
noncomputable def slotL(V:LS)(a:AV)(K:Addr->Nat->List AV->Prop):Prop:=match a with
 | .loc x i=>(match slot V i with
  | .at b (.list l)=>b=x/\K x i l
  | _=>False)
 | _=>False
noncomputable def slotC(V:LS)(a:AV)(K:Addr->Nat->List AV->Prop)(K':Addr->Nat->List (Af×AV)->Prop):Prop:=match a with
 | .loc x i=>(match slot V i with
  | .at b (.list l)=>b=x/\K b i l
  | .at b (.dict l)=>b=x/\K' b i l
  | _=>False)
 | _=>False
noncomputable def methW(n:Nat)(a:AV)(avs:List AV)(V:LS)(K:KV):Prop:=match n with
 | 0=>(match avs with
  | [x]=>slotL V a fun ad i l=>l.length<=big/\K .none (V.set i (.at ad (.list (l++[x]))))
  | _=>False)
 | 1=>(match avs with
  | []=>slotL V a fun ad i l=>l.length<=big/\∃x,l.getLast?=some x/\K x (V.set i (.at ad (.list l.dropLast)))
  | _=>False)
 | 2=>(match avs with
  | [i,x]=>slotL V a fun ad j l=>(match i with
   | .int z=>(0<=z/\z.toNat<=l.length)/\l.length<=big/\K .none (V.set j (.at ad (.list (IY l z.toNat x))))
   | _=>False)
  | _=>False)
 | 4=>(match avs with
  | [b]=>slotL V a fun ad j l=>dlW V b fun k=>l.length+k.length<=big/\K .none (V.set j (.at ad (.list (l++k))))
  | _=>False)
 | 6=>(match avs with
  | [k]=>ddW V a fun l=>spotW k fun kk=>K ((Bq l kk).getD .none) V
  | _=>False)
 | _=>(match a with
  | .str x=>(match avs with
   | [b]=>dlW V b fun l=>∃ys:List Str,l=ys.map .str/\(ys.map (·.length)).sum+ys.length * x.length<=1000000/\K (.str (Txt.join x ys)) V
   | _=>False)
  | _=>False)
noncomputable def objW(n:Nat)(a:AV)(V:LS)(P:Prop):Prop:=match n with
 | 6=>ddW V a fun Z=>P
 | 8=>(match a with
  | .str _=>P
  | _=>False)
 | _=>slotL V a fun Z Z Z=>P
noncomputable def hasF(Φ:Tab)(i:Nat):Bool:=gI i 17 || (Gq Φ.fn i).isSome
noncomputable def isMe:Nat->Bool
 | 0 | 1 | 2 | 3 | 4 | 6 | 7 | 8=>true
 | _=>false
noncomputable def Do(f:AV->Option Af)(x:AV):Af:=match f x with
 | some p=>p
 | aa=>(0,0)
noncomputable def Sorts(f:AV->Option Af)(L L':List AV):Prop:=L'.Perm L/\L'.Pairwise (fun x y=>AL (Do f x) (Do f y)=true)
noncomputable def sortW(f:AV->Option Af)(mu:Option Nat)(L:List AV)(V:LS)(K:KV):Prop :=
 ((∀x∈L,(f x).isSome=true)/\L.length<64/\(L.map (Do f)).Nodup)/\∀L',Sorts f L L'->frW mu (.list L') (.list L') V K
noncomputable abbrev KG:=List AV->Option Nat->LS->Prop
noncomputable def iterW(q:Bool)(a:AV)(V:LS)(G:KG):Prop:=match a with
 | .tup l=>quiet q (G l aa V)
 | .list l=>quiet q (G l aa V)
 | .str x=>quiet q (x.cps.all (·<128)=true/\G (C3 x) aa V)
 | .dict l=>quiet q (G (l.map fun p=>sp p.1) aa V)
 | .range a b c=>cg a b c=true/\G (AU a c (A9 a b c)) aa V
 | .loc x i=>(match slot V i with
  | .at b (.list l)=>b=x/\quiet q (G l (some i) V)
  | _=>False)
 | _=>False
noncomputable def enumW(q:Bool)(a:AV)(V:LS)(G:KG):Prop:=match a with
 | .str x=>quiet q (x.cps.all (·<128)=true/\G (Cp (C3 x)) aa V)
 | .list l=>quiet q (G (Cp l) aa V)
 | .loc x i=>(match slot V i with
  | .at b (.list l)=>b=x/\quiet q (G (Cp l) (some i) V)
  | _=>False)
 | _=>False
noncomputable def stays(ok:Option Nat)(V V':LS)(P:Prop):Prop:=match ok with
 | aa=>P
 | some i=>slot V' i=slot V i/\P
mutual
noncomputable def patW(q:Bool):Pat->AV->M->(M->Prop)->Prop
 | .v i,a,m,K=>K (FA m i a)
 | .tup ps,a,m,K=>quiet q (match a with
  | .tup l=>(match cw ps.length l.length with
   | true=>patsW q ps l m K
   | false=>False)
  | _=>False)
noncomputable def patsW(q:Bool):List Pat->List AV->M->(M->Prop)->Prop
 | [],[],m,K=>K m
 | p::ps,a::as,m,K=>patW q p a m (fun Am=>patsW q ps as Am K)
 | _,_,_,_=>False
end
noncomputable def kSeq(f:M->LS->KS->Prop)(K:KS):KS:=fun fl m V=>match fl with
 | .next=>f m V K
 | .ret v=>K (.ret v) m V
noncomputable def Ex(ok:Option Nat)(V:LS)(C:M->LS->Prop)(K:KS):KS:=fun fl m Ab=>match fl with
 | .next=>stays ok V Ab (C m Ab)
 | .ret v=>K (.ret v) m Ab
noncomputable def kWh(n:Nat)(I:Nat->M->LS->Prop)(K:KS):KS:=fun fl m V=>match fl with
 | .next=>∃n',n'<n/\I n' m V
 | .ret v=>K (.ret v) m V
set_option tactic.hygienic true in
noncomputable def I2(q:Bool)(p:Pat)(body:M->LS->KS->Prop)(ok:Option Nat)(K:KS):List AV->M->LS->Prop
 | [],m,V=>K .next m V
 | x::r,m,V=>patW q p x m (fun Am=>body Am V (Ex ok V (I2 q p body ok K r) K))
noncomputable def D2(i:Nat)(elt:M->LS->KV->Prop)(tst:M->LS->KB->Prop)(ok:Option Nat)(m:M)(K:List AV->LS->Prop):List AV->List AV->LS->Prop
 | [],ys,V=>K ys V
 | x::r,ys,V=>tst (FA m i x) V (fun b Aa=>ifW b (elt (FA m i x) Aa (fun y Ab=>stays ok V Ab (D2 i elt tst ok m K r (ys++[y]) Ab)))
  (stays ok V Aa (D2 i elt tst ok m K r ys Aa)))
structure WT where
 v:Option Nat->M->LS->KV->Prop
 t:M->LS->KB->Prop
noncomputable def vt(f:Option Nat->M->LS->KV->Prop):WT:=⟨f,fun m V K=>f aa m V (fun a V'=>boolW a fun b=>K b V')⟩
noncomputable def Gn:List WT->M->LS->(List AV->LS->Prop)->Prop
 | [],_,V,K=>K [] V
 | f::r,m,V,K=>f.v aa m V (fun a Aa=>Gn r m Aa (fun l Ab=>K (a::l) Ab))
noncomputable def andT:List WT->M->LS->KB->Prop
 | [],_,V,K=>K true V
 | f::r,m,V,K=>f.t m V (fun b Aa=>ifW b (andT r m Aa K) (K false Aa))
noncomputable def orT:List WT->M->LS->KB->Prop
 | [],_,V,K=>K false V
 | f::r,m,V,K=>f.t m V (fun b Aa=>ifW b (K true Aa) (orT r m Aa K))
noncomputable def andV:List WT->M->LS->KV->Prop
 | [],_,_,_=>False
 | f::r,m,V,K=>(match r with
  | []=>f.v aa m V K
  | _::_=>f.v aa m V (fun a Aa=>boolW a fun b=>ifW b (andV r m Aa K) (K (.bool false) Aa)))
noncomputable def orV:List WT->M->LS->KV->Prop
 | [],_,_,_=>False
 | f::r,m,V,K=>(match r with
  | []=>f.v aa m V K
  | _::_=>f.v aa m V (fun a Aa=>boolW a fun b=>ifW b (K (.bool true) Aa) (orV r m Aa K)))
noncomputable def pairW:List WT->List WT->List (AV×AV)->M->LS->(List (AV×AV)->LS->Prop)->Prop
 | [],[],r,_,V,K=>K r V
 | f::fs,g::gs,r,m,V,K=>f.v aa m V (fun a Aa=>g.v aa m Aa (fun b Ab=>pairW fs gs (r++[(a,b)]) m Ab K))
 | _,_,_,_,_,_=>False
noncomputable def dictW(mu:Option Nat)(ps:List (AV×AV))(V:LS)(K:KV):Prop:=match Nat.ble ps.length 15 with
 | true=>(match mkD ps [] with
  | some l=>frW mu (.dict l) (.dict l) V K
  | aa=>False)
 | false=>False
noncomputable def few{α:Type}(l:List α)(P:Prop):Prop:=match gI l.length 15 with
 | true=>P
 | false=>False
noncomputable def Gs(fs:List WT)(m:M)(V:LS)(K:KB):Prop:=match fs with
 | []=>K true V
 | [f]=>f.t m V K
 | _=>False
noncomputable def gW(Φ:Tab)(i:Nat)(V:LS)(K:KV):Prop:=match cw i 28 with
 | true=>(match Φ.ex.contains 28 with
  | true=>K (.int 6) V
  | false=>False)
 | false=>(match gI i 17 || Φ.ex.contains i with
  | true=>K (.cls i) V
  | false=>False)
noncomputable def slotD(V:LS)(a:AV)(K:Addr->Nat->List (Af×AV)->Prop):Prop:=match a with
 | .loc x i=>(match slot V i with
  | .at b (.dict l)=>b=x/\K b i l
  | _=>False)
 | _=>False
noncomputable def sdW(fs:List WT)(m:M)(a:AV)(V:LS)(K:KV):Prop:=match two? fs with
 | some f=>slotD V a fun Z Z Z=>f.1.v aa m V (fun k Aa=>spotW k fun kk=>∃mu,f.2.v mu m Aa (fun x Ab=>slotD Ab a fun b j l=>l.length<=big/\(match Bq l kk with
  | some v=>K v Ab
  | aa=>K x (Ab.set j (.at b (.dict (Bo l kk x)))))))
 | aa=>False
noncomputable def clrW(fs:List WT)(a:AV)(V:LS)(K:KV):Prop:=match fs with
 | []=>slotC V a (fun ad i l=>l.length<=big/\K .none (V.set i (.at ad (.list [])))) (fun ad i l=>l.length<=big/\K .none (V.set i (.at ad (.dict []))))
 | _=>False
noncomputable def bmW(n:Nat)(fs:List WT)(m:M)(a:AV)(V:LS)(K:KV):Prop:=match n with
 | 3=>clrW fs a V K
 | 7=>sdW fs m a V K
 | n=>objW n a V (Gn fs m V (fun avs Ab=>methW n a avs Ab K))
noncomputable def omW(o:Option FS)(g:WT)(fs:List WT)(mu:Option Nat)(X:XL)(m:M)(V:LS)(K:KV):Prop:=match o with
 | some f=>g.v aa m V (fun a Aa=>instW Aa a fun Z Z=>Gn fs m Aa (fun avs Ab=>instW Ab a fun Z Z=>ownW f mu (a::avs) Ab K X))
 | aa=>False
mutual
noncomputable def wp(Φ:Tab):E->XL->WT
 | .none,_=>vt fun Z Z V K=>K .none V
 | .bool b,_=>vt fun Z Z V K=>K (.bool b) V
 | .int i,_=>vt fun Z Z V K=>K (.int i) V
 | .str s,_=>vt fun Z Z V K=>K (.str s) V
 | .v i,_=>vt fun Z m V K=>match m.getD i aa with
  | some a=>K a V
  | aa=>False
 | .g i,_=>vt fun Z Z V K=>gW Φ i V K
 | .tup es,X=>vt fun Z m V K=>few es (Gn (wpL Φ es X) m V (fun l V'=>K (.tup l) V'))
 | .list es,X=>vt fun mu m V K=>few es (Gn (wpL Φ es X) m V (fun l V'=>frW mu (.list l) (.list l) V' K))
 | .dict ks vs,_=>vt fun mu m V K=>(match cw ks.length vs.length && gI ks.length 15 with
  | true=>pairW (wpL Φ ks CA) (wpL Φ vs CA) [] m V (fun ps V'=>dictW mu ps V' K)
  | false=>False)
 | .bin op l r,X=>vt fun mu m V K=>(wp Φ l X).v aa m V (fun a Aa=>(wp Φ r X).v aa m Aa (fun b Ab=>binW (lit r) mu op a b Ab K))
 | .neg x,X=>vt fun Z m V K=>(wp Φ x X).v aa m V (fun a Aa=>match a with
  | .int i=>K (.int (-i)) Aa
  | _=>False)
 | .not x,X=>⟨fun Z m V K=>(wp Φ x X).v aa m V (fun a Aa=>boolW a fun b=>K (.bool (!b)) Aa),fun m V K=>(wp Φ x X).t m V (fun b Aa=>K (!b) Aa)⟩
 | .and es,X=>⟨fun Z m V K=>andV (wpL Φ es X) m V K,fun m V K=>andT (wpL Φ es X) m V K⟩
 | .or es,X=>⟨fun Z m V K=>orV (wpL Φ es X) m V K,fun m V K=>orT (wpL Φ es X) m V K⟩
 | .cmp op l r,X=>⟨fun Z m V K=>(wp Φ l X).v aa m V (fun a Aa=>(wp Φ r X).v aa m Aa (fun b Ab=>cmpW op a b Ab fun t=>K (.bool t) Ab)),
   fun m V K=>(wp Φ l X).v aa m V (fun a Aa=>(wp Φ r X).v aa m Aa (fun b Ab=>cmpW op a b Ab fun t=>K t Ab))⟩
 | .cmp2 o1 o2 a b c,X=>⟨fun Z Z Z Z=>False,fun m V K=>(wp Φ a X).v aa m V (fun x Aa=>(wp Φ b X).v aa m Aa (fun y Ab=>cmpW o1 x y Ab fun t=>ifW t ((wp Φ c X).v aa m Ab (fun z Ap=>cmpW o2 y z Ap fun t=>K t Ap)) (K false Ab)))⟩
 | .ite c a b,X=>⟨fun mu m V K=>(wp Φ c X).t m V (fun t Aa=>ifW t ((wp Φ a X).v mu m Aa K) ((wp Φ b X).v mu m Aa K)),fun Z Z Z=>False⟩
 | .sub o i,X=>vt fun Z m V K=>(wp Φ o X).v aa m V (fun a Aa=>(wp Φ i X).v aa m Aa (fun k Ab=>subW (lit0 i) a k Ab K))
 | .slice o lo hi st,X=>vt fun Z m V K=>quiet (HD lo hi st) ((wp Φ o X).v aa m V (fun a Aa=>backW a Aa K))
 | .attr (.v i) n,_=>vt fun Z m V K=>match m.getD i aa with
  | some a=>attrW n a V K
  | aa=>False
 | .call (.g i) (e::es),X=>vt fun mu m V K=>(match hasF Φ i with
  | true=>Gn (wpL Φ (e::es) X) m V (fun avs Aa=>callW Φ X mu i avs Aa K)
  | false=>False)
 | .sorted x (.g i),X=>vt fun mu m V K=>match Gq Φ.ky i with
  | some f=>(wp Φ x X).v aa m V (fun a Aa=>dlW Aa a fun L=>sortW f mu L Aa K)
  | aa=>False
 | .meth o n args,X=>vt fun mu m V K=>ifW (isMe n) ((wp Φ o X).v aa m V (fun a Aa=>bmW n (wpL Φ args X) m a Aa K)) (omW (Gq Φ.me n) (wp Φ o X) (wpL Φ args X) mu X m V K)
 | .comp elt i src cs,X=>vt fun mu m V K=>(wp Φ src X).v aa m V (fun a Aa=>iterW Φ.q a Aa (fun items ok Ab=>items.length<=big/\D2 i ((wp Φ elt CA).v aa) (Gs (wpL Φ cs CA)) ok m (fun ys Ap=>frW mu (.list ys) (.list ys) Ap K) items [] Ab))
 | .mu l e,X=>⟨fun Z m V K=>(wp Φ e X).v (some l) m V K,fun m V K=>(wp Φ e X).t m V K⟩
 | _,_=>⟨fun Z Z Z Z=>False,fun Z Z Z=>False⟩
noncomputable def wpL(Φ:Tab):List E->XL->List WT
 | [],_=>[]
 | e::r,X=>wp Φ e X::wpL Φ r X
end
noncomputable def slotI(V:LS)(a:AV)(K:Addr->Nat->Addr->List (Str×AV)->Prop):Prop:=match a with
 | .loc x i=>(match fields? V i with
  | some f=>(f.1.1=x/\f.2.1=f.1.2)/\K f.1.1 i f.2.1 f.2.2
  | aa=>False)
 | _=>False
noncomputable def vOf:Pat->Option Nat
 | .v i=>some i
 | _=>aa
noncomputable def tupOf:E->Option (List E)
 | .tup es=>some es
 | _=>aa
noncomputable def asg3(p q:Pat)(a b:E):Bool:=match vOf p with
 | some i=>(match vOf q with
  | some j=>!(cw i j) && (DK 8 a || DK 8 b)
  | aa=>false)
 | aa=>false
noncomputable def asg2(ps:List Pat)(es:List E):Bool:=match two? ps with
 | some pq=>(match two? es with
  | some ab=>asg3 pq.1 pq.2 ab.1 ab.2
  | aa=>false)
 | aa=>false
noncomputable def asgT(ps:List Pat)(e:E):Bool:=match tupOf e with
 | some es=>asg2 ps es || (Nat.ble 4 ps.length && AJ e)
 | aa=>FG e && AJ e
noncomputable def notMu:E->Bool
 | .mu _ _=>false
 | _=>true
noncomputable def notMu2:E->Bool
 | .mu _ e=>notMu e
 | _=>true
noncomputable def asgOk(q:Bool)(p:Pat)(e:E):Bool:=match p with
 | .v _=>notMu2 e
 | .tup ps=>q && asgT ps e
noncomputable def E.g?:E->Option Nat
 | .g i=>some i
 | _=>aa
noncomputable def call1?:E->Option (Nat×E)
 | .call f es=>f.g?.bind fun i=>(one? es).bind fun e=>some (i,e)
 | _=>aa
noncomputable def Lg(e:E):Option E:=(call1? e).bind fun p=>match cw p.1 9 with
 | true=>some p.2
 | false=>aa
noncomputable def isTup:Pat->Bool
 | .tup _=>true
 | _=>false
noncomputable def srcS(Φ:Tab)(X:XL)(p:Pat)(e:E)(m:M)(V:LS)(G:KG):Prop:=match Lg e with
 | some e'=>(match isTup p with
  | true=>(wp Φ e' X).v aa m V (fun a Aa=>enumW Φ.q a Aa G)
  | false=>False)
 | aa=>(wp Φ e X).v aa m V (fun a Aa=>iterW Φ.q a Aa G)
set_option tactic.hygienic true in
mutual
noncomputable def wpS(Φ:Tab):Mine.Internal.S->XL->M->LS->KS->Prop
 | .assign p e,X,m,V,K=>quiet (asgOk Φ.q p e) ((wp Φ e X).v aa m V (fun a Aa=>patW Φ.q p a m (fun Am=>K .next Am Aa)))
 | .setattr o n e,X,m,V,K=>quiet (AJ e && (cw n 11 || cw n 12)) ((wp Φ e X).v aa m V (fun x Aa=>(wp Φ o X).v aa m Aa (fun a Ab=>slotI Ab a fun Z i d fs=>fs.length<=100/\K .next m (Ab.set (i+1) (.at d (.attrs (Jh fs (fld n) x)))))))
 | .setitem o i e,X,m,V,K=>quiet (AJ e) ((wp Φ e X).v aa m V (fun x Aa=>(wp Φ o X).v aa m Aa (fun a Ab=>(wp Φ i X).v aa m Ab (fun k Ap=>slotD Ap a fun b j l=>l.length<=big/\spotW k fun kk=>K .next m (Ap.set j (.at b (.dict (Bo l kk x))))))))
 | .expr e,X,m,V,K=>quiet (AJ e) ((wp Φ e X).v aa m V (fun Z Aa=>K .next m Aa))
 | .ret e,X,m,V,K=>(wp Φ e X).v aa m V (fun a Aa=>K (.ret a) m Aa)
 | .ite c a b,X,m,V,K=>(wp Φ c X).t m V (fun t Aa=>ifW t (wpSs Φ a X m Aa K) (wpSs Φ b X m Aa K))
 | .for_ p e body,X,m,V,K=>srcS Φ X p e m V (fun items ok Ab=>I2 Φ.q p (wpSs Φ body X) ok K items m Ab)
 | .while_ c body,X,m,V,K=>∃I:Nat->M->LS->Prop,(∃n,I n m V)/\∀n m V,I n m V->(wp Φ c X).t m V (fun t Aa=>ifW t (wpSs Φ body X m Aa (kWh n I K)) (K .next m Aa))
 | .pass,_,m,V,K=>K .next m V
 | _,_,_,_,_=>False
noncomputable def wpSs(Φ:Tab):List Mine.Internal.S->XL->M->LS->KS->Prop
 | [],_,m,V,K=>K .next m V
 | s::r,X,m,V,K=>wpS Φ s X m V (kSeq (wpSs Φ r X) K)
end
end
section
variable {S:Sta}
section
variable {F:Fx S}{m:Vars}{V:LS}{X:Value->ae->Prop}{K:KV}
theorem Up.now{α:Type}{K:α->LS->Prop}{v:α}(k:okS V)(h:K v V):Up K v (Av V):=⟨V,Sub.rfl,k,h⟩
theorem Up.upd{α:Type}{K:α->LS->Prop}{v:α}{i:Nat}{a:Addr}{o p:AObj}(k:okS V)(hi:slot V i=.at a o)(h:K v (V.set i (.at a p))):Up K v ((Av V).set a p) :=
 have f:Fits V i (.at a p):=fun Z Z e=>by cases e;exact .inr ⟨o,hi⟩
 ⟨_,EX k f,DB k f,h⟩
theorem Up.add{α:Type}{K:α->LS->Prop}{v:α}{i:Nat}{a:Addr}{p:AObj}(k:okS V)(hd:¬Dom (Av V) a)(h:K v (V.set i (.at a p))):Up K v ((Av V).set a p) :=
 have f:Fits V i (.at a p):=fun Z Z e=>by cases e;exact .inl (C5 hd)
 ⟨_,EX k f,DB k f,h⟩
theorem frW.fresh{mu:Option Nat}{o:AObj}{fz:AV}(k:okS V)(h:frW mu o fz V K):Fresh (Av V) o fz (Up K):=by
 cases mu with
 | none=>exact .inl (.now k h)
 | some i=>exact .inr ⟨i,fun a hd=>.add k hd (h a)⟩
theorem dlW.out{v:AV}{K:List AV->Prop}(k:okS V)(h:dlW V v K):∃l,dl (Av V) v=some l/\K l:=by
 cases v with
 | list l=>exact ⟨l,rfl,h⟩
 | loc a i =>
  unfold dlW at h;dsimp only at h
  cases q:slot V i with
  | no=>rw [q] at h;exact h.elim
  | «at» b o =>
   rw [q] at h
   cases o with
   | list l=>obtain ⟨rfl,h⟩:=h;exact ⟨l,BE (Au k q),h⟩
   | _=>exact h.elim
 | _=>exact h.elim
theorem ddW.out{v:AV}{K:List (Af×AV)->Prop}(k:okS V)(h:ddW V v K):∃l,dd (Av V) v=some l/\K l:=by
 cases v with
 | dict l=>exact ⟨l,rfl,h⟩
 | loc a i =>
  unfold ddW at h;dsimp only at h
  cases q:slot V i with
  | no=>rw [q] at h;exact h.elim
  | «at» b o =>
   rw [q] at h
   cases o with
   | dict l=>obtain ⟨rfl,h⟩:=h;exact ⟨l,BV (Au k q),h⟩
   | _=>exact h.elim
 | _=>exact h.elim
theorem spotW.out{a:AV}{K:Af->Prop}(h:spotW a K):∃k:Af,a=sp k/\K k:=by
 unfold spotW at h
 cases q:spot? a with
 | none=>rw [q] at h;exact h.elim
 | some k=>rw [q] at h;exact ⟨k,spot?_out q,h⟩
theorem int2.out{a b:AV}{K:Int->Int->Prop}(h:int2 a b K):∃x y,a=.int x/\b=.int y/\K x y:=by
 cases a with
 | int x =>
  cases b with
  | int y=>exact ⟨x,y,rfl,rfl,h⟩
  | _=>exact h.elim
 | _=>exact h.elim
theorem boolW.out{a:AV}{K:Bool->Prop}(h:boolW a K):∃b,a=.bool b/\K b:=by
 cases a with
 | bool b=>exact ⟨b,rfl,h⟩
 | _=>exact h.elim
theorem quiet.out{q:Bool}{P:Prop}(h:quiet q P):q=true/\P:=by
 cases q with
 | true=>exact ⟨rfl,h⟩
 | false=>exact h.elim
theorem vwW.out{v:AV}{K:AV->Prop}(k:okS V)(h:vwW V v K):∃v',K v'/\(∀d,Gm v'=some d->BP (Av V) v=some d)/\∀l,v'=.dict l->dd (Av V) v=some l:=by
 cases v with
 | loc a i =>
  unfold vwW at h;dsimp only at h
  cases q:slot V i with
  | no=>rw [q] at h;exact h.elim
  | «at» b o =>
   rw [q] at h
   cases o with
   | list l =>
    obtain ⟨rfl,h⟩:=h;refine ⟨_,h,fun d e=>?_,fun l e=>(Ak rfl (congrArg (fun v=>dd (Av V) v) e)).elim⟩;simp only [BP,BE (Au k q)];exact e
   | dict l=>obtain ⟨rfl,h⟩:=h;exact ⟨_,h,fun d e=>(Ak rfl e).elim,fun l e=>by rw [BV (Au k q)];exact congrArg (dd (Av V)) e⟩
   | _=>exact h.elim
 | _=>exact ⟨_,h,fun d e=>e,fun l e=>congrArg (dd (Av V)) e⟩
theorem addW_ok{mu:Option Nat}{a b:AV}(k:okS V)(h:addW mu a b V K):BT F m (Av V) .Add a b (Up K) X:=by
 have Y:(dlW V a fun l=>dlW V b fun k=>l.length+k.length<=big/\frW mu (.list (l++k)) (.list (l++k)) V K)->BT F m (Av V) .Add a b (Up K) X:=fun h=>by
  refine X1pp (h.out k) fun l h1 h=>?_;refine X1ppp (h.out k) fun l' h2 hz h=>?_;exact BT.addList h1 h2 hz (h.fresh k)
 cases a with
 | int x =>
  cases b with
  | int y=>exact BT.add (.now k h)
  | _=>exact h.elim
 | str x =>
  cases b with
  | str y=>exact BT.addStr h.1 (.now k h.2)
  | _=>exact h.elim
 | _=>exact Y h
theorem mulW_ok{mu:Option Nat}{a b:AV}(k:okS V)(h:mulW mu a b V K):BT F m (Av V) .Mult a b (Up K) X:=by
 cases b with
 | int y =>
  cases a with
  | int x=>exact BT.mul h.1 (.now k h.2)
  | str x=>exact BT.mulStr h.1 (.now k h.2)
  | _=>exact h.elim
 | _=>exact h.elim
theorem cnd.out{li:Bool}{P R:Prop}(h:cnd li P R)(hl:li=true->P):P/\R:=by
 cases li with
 | true=>exact ⟨hl rfl,h⟩
 | false=>exact h
theorem LD{li:Bool}{mu:Option Nat}{op:hV}{a b:AV}(k:okS V)(hl:li=true->∀y,b=.int y->y≠0/\y.natAbs<1073741824)(h:binW li mu op a b V K):BT F m (Av V) op a b (Up K) X:=by
 cases op with
 | Add=>exact addW_ok k h
 | Sub=>refine X2llp a b (int2.out h) fun x y h=>?_;exact BT.sub (.now k h)
 | Mult=>exact mulW_ok (mu:=mu) k h
 | Mod=>unfold binW at h;refine X2ppp (int2.out h) fun x y Z0 Z1 h=>?_;subst Z0;subst Z1;refine Ao (cnd.out h fun q=>(hl q y rfl).1) fun h1 h2=>?_;exact BT.mod h1 (.now k h2)
 | FloorDiv=>unfold binW at h;refine X2ppp (int2.out h) fun x y Z2 Z3 h=>?_;subst Z2;subst Z3;refine Ao (cnd.out h fun q=>hl q y rfl) fun h1 h2=>?_;exact BT.div h1.1 h1.2 (.now k h2)
 | _=>exact h.elim
theorem lit_pos{e:E}(h:lit e=true):∃n:Nat,e=.int (n+1:Nat)/\n<1000000:=by
 cases e with
 | int i =>
  cases i with
  | ofNat n =>
   cases n with
   | zero=>cases h
   | succ n=>exact ⟨n,rfl,ef.mp h⟩
  | negSucc n=>cases h
 | _=>exact (aH h).elim
theorem lit0_pos{e:E}(h:lit0 e=true):∃n:Nat,e=.int (n:Nat)/\n<1000000:=by
 cases e with
 | int i =>
  cases i with
  | ofNat n=>exact ⟨n,rfl,ef.mp h⟩
  | negSucc n=>cases h
 | _=>exact (aH h).elim
theorem eqW_ok{a b:AV}{K:Bool->LS->Prop}{f:Bool->Bool}{op:CmpOp}(Y:(op=.Eq/\f=id)\/(op=.NotEq/\f=not))(k:okS V)(h:eqW a b V fun t=>K (f t) V):KT F m (Av V) op a b (Up K) X:=by
 have B:∀{a b:AV},(vwW V a fun a'=>vwW V b fun b'=>∃t,EqP a' b' t/\K (f t) V)->KT F m (Av V) op a b (Up K) X:=fun h=>by
  refine X1ppp (h.out k) fun a' h ea z=>?_;refine X1ppp (h.out k) fun b' h eb T=>?_;refine X1pp h fun t he h=>?_
  cases he with
  | py he =>
   refine X2ppppp he fun da db h1 h2 h3 h4 h5=>?_
   rcases Y with ⟨rfl,rfl⟩ | ⟨rfl,rfl⟩
   ·exact KT.eq (ea _ h1) (eb _ h2) h3 h4 (.now k (by rw [h5];exact h))
   ·exact KT.ne (ea _ h1) (eb _ h2) h3 h4 (.now k (by rw [h5];exact h))
  | dict l e1 e2 hv ht =>
   subst ht
   rcases Y with ⟨rfl,rfl⟩ | ⟨rfl,rfl⟩
   ·exact KT.eqDict (z _ e1) (T _ e2) hv (.now k h)
   ·exact KT.neDict (z _ e1) (T _ e2) hv (.now k h)
 cases a with
 | int x =>
  cases b with
  | int y =>
   rcases Y with ⟨rfl,rfl⟩ | ⟨rfl,rfl⟩
   ·exact KT.intEq (.now k h)
   ·exact KT.intNe (.now k h)
  | _=>exact B (a:=.int x) h
 | _=>exact B h
theorem EW{s:Store}{a:AV}{d:dX}(h:Gm a=some d):BP s a=some d:=by
 cases a<;>first | exact h | exact (Ak rfl h).elim
theorem inW_ok{a b:AV}{K:Bool->LS->Prop}{f:Bool->Bool}{op:CmpOp}(Y:(op=.In/\f=id)\/(op=.NotIn/\f=not))(k:okS V)(h:inW a b V fun t=>K (f t) V):KT F m (Av V) op a b (Up K) X:=by
 obtain ⟨t,h,hK⟩:=h;have dct:∀{l:List (Af×AV)},dd (Av V) b=some l->(spotW a fun k=>(Bq l k).isSome=t)->KT F m (Av V) op a b (Up K) X:=fun e h=>by
  obtain ⟨kk,rfl,h⟩:=h.out;subst h
  rcases Y with ⟨rfl,rfl⟩ | ⟨rfl,rfl⟩
  ·exact KT.inDict e (.now k hK)
  ·exact KT.notInDict e (.now k hK)
 have seq:∀{v:AV},(∀d,Gm v=some d->BP (Av V) b=some d)->InP a v t->KT F m (Av V) op a b (Up K) X:=fun e h=>by
  obtain ⟨d,xs,h1,h2,h3,h4,h5,h6⟩:=h;have hb:IF (Av V) b=some xs:=by
   unfold IF
   rcases h2 with q | q<;>rw [e _ q]
  rcases Y with ⟨rfl,rfl⟩ | ⟨rfl,rfl⟩
  ·exact KT.inSeq (EW h1) hb h3 h4 h5 (.now k (by rw [h6];exact hK))
  ·exact KT.notInSeq (EW h1) hb h3 h4 h5 (.now k (by rw [h6];exact hK))
 cases b with
 | dict l=>exact dct rfl h
 | str x =>
  cases a with
  | str y =>
   have h:eu x y=t:=h;clear h dct seq;subst h
   rcases Y with ⟨rfl,rfl⟩ | ⟨rfl,rfl⟩
   ·exact KT.inStr (.now k hK)
   ·exact KT.notInStr (.now k hK)
  | _=>exact h.elim
 | loc ad i =>
  unfold InV at h;dsimp only at h
  cases q:slot V i with
  | no=>rw [q] at h;exact h.elim
  | «at» b o =>
   rw [q] at h
   cases o with
   | list l =>
    obtain ⟨rfl,h⟩:=h;refine seq (v:=.list l) (fun d e=>?_) h;simp only [BP,BE (Au k q)];exact e
   | dict l=>obtain ⟨rfl,h⟩:=h;exact dct (BV (Au k q)) h
   | _=>exact h.elim
 | _=>exact seq (fun d e=>EW e) h
theorem isW_ok{a b:AV}{K:Bool->LS->Prop}{f:Bool->Bool}{op:CmpOp}(Y:(op=.Is/\f=id)\/(op=.IsNot/\f=not))(k:okS V)(h:isW a b fun t=>K (f t) V):KT F m (Av V) op a b (Up K) X:=by
 cases b with
 | none =>
  rcases Y with ⟨rfl,rfl⟩ | ⟨rfl,rfl⟩
  ·refine KT.isNone ?_
   cases a<;>first | exact h.elim | exact .now k h
  ·refine KT.isNotNone ?_
   cases a<;>first | exact h.elim | exact .now k h
 | bool c =>
  cases a with
  | bool b =>
   rcases Y with ⟨rfl,rfl⟩ | ⟨rfl,rfl⟩
   ·exact KT.isBool (.now k h)
   ·exact KT.isNotBool (.now k h)
  | _=>exact h.elim
 | _=>exact h.elim
theorem ltW_ok{a b:AV}{K:Bool->LS->Prop}(k:okS V)(h:ltW a b fun t=>K t V):KT F m (Av V) .Lt a b (Up K) X:=by
 have B:(int2 a b fun x y=>K (decide (x<y)) V)->KT F m (Av V) .Lt a b (Up K) X:=fun h=>by
  refine X2llp a b (int2.out h) fun x y h=>?_;exact KT.intLt (.now k h)
 cases a with
 | tup l =>
  refine X1pp (spotW.out h) fun p e h=>?_;refine X1lp b h.out fun q h=>?_;rw [e];exact KT.ltSpot (.now k h)
 | _=>exact B h
theorem Fm{op:CmpOp}{a b:AV}{K:Bool->LS->Prop}(k:okS V)(h:cmpW op a b V fun t=>K t V):KT F m (Av V) op a b (Up K) X:=by
 cases op with
 | Eq=>exact eqW_ok (.inl ⟨rfl,rfl⟩) k h
 | NotEq=>exact eqW_ok (.inr ⟨rfl,rfl⟩) k h
 | Lt=>exact ltW_ok k h
 | LtE=>refine X2llp a b (int2.out h) fun x y h=>?_;exact KT.intLe (.now k h)
 | Gt=>refine X2llp a b (int2.out h) fun x y h=>?_;exact KT.intGt (.now k h)
 | In=>exact inW_ok (.inl ⟨rfl,rfl⟩) k h
 | NotIn=>exact inW_ok (.inr ⟨rfl,rfl⟩) k h
 | Is=>exact isW_ok (.inl ⟨rfl,rfl⟩) k h
 | IsNot=>exact isW_ok (.inr ⟨rfl,rfl⟩) k h
 | _=>exact h.elim
theorem idxW.out{li:Bool}{i:AV}{K:Nat->Prop}(hl:li=true->∃n:Nat,i=.int n/\n<1000000)(h:idxW li i K):∃k:Int,i=.int k/\0<=k/\k<1000000/\K k.toNat:=by
 cases i with
 | int k =>
  obtain ⟨⟨h1,h2⟩,h3⟩:=cnd.out h fun q=>by
   obtain ⟨n,e,hn⟩:=hl q
   cases e
   exact ⟨dT n,iv.mpr hn⟩
  exact ⟨k,rfl,h1,h2,h3⟩
 | _=>exact h.elim
theorem Jt{li:Bool}{a i:AV}(hl:li=true->∃n:Nat,i=.int n/\n<1000000)(k:okS V)(h:subW li a i V K):IT F m (Av V) a i (Up K) X:=by
 have lst:∀{l:List AV},dl (Av V) a=some l->(idxW li i fun n=>∃x,l[n]?=some x/\K x V)->IT F m (Av V) a i (Up K) X:=fun e h=>by
  obtain ⟨kk,rfl,h0,h1,x,hx,h⟩:=idxW.out hl h;exact IT.list e h0 h1 hx (.now k h)
 have dct:∀{l:List (Af×AV)},dd (Av V) a=some l->(spotW i fun k=>∃x,Bq l k=some x/\K x V)->IT F m (Av V) a i (Up K) X:=fun e h=>by
  obtain ⟨kk,rfl,x,hx,h⟩:=h.out;exact IT.dict e hx (.now k h)
 cases a with
 | tup l =>
  unfold subW at h;obtain ⟨kk,rfl,h0,h1,h⟩:=idxW.out hl h
  cases hx:l[kk.toNat]? with
  | none=>rw [hx] at h;exact h.elim
  | some x=>rw [hx] at h;exact IT.tup h0 h1 hx (.now k h)
 | str x=>unfold subW at h;obtain ⟨kk,rfl,h0,h1,c,hx,h⟩:=idxW.out hl h;exact IT.str h0 h1 hx (.now k h)
 | nums l=>unfold subW at h;obtain ⟨kk,rfl,h0,h1,c,hx,h⟩:=idxW.out hl h;exact IT.nums h0 h1 hx (.now k h)
 | list l=>exact lst rfl h
 | dict l=>exact dct rfl h
 | loc ad j =>
  unfold subW at h;dsimp only at h
  cases q:slot V j with
  | no=>rw [q] at h;exact h.elim
  | «at» b o =>
   rw [q] at h
   cases o with
   | list l=>obtain ⟨rfl,h⟩:=h;exact lst (BE (Au k q)) h
   | dict l=>obtain ⟨rfl,h⟩:=h;exact dct (BV (Au k q)) h
   | _=>exact h.elim
 | _=>exact h.elim
end
end
section
variable {S:Sta}
end
section
variable {S:Sta}{W:Wd}
theorem Sub.trans{V:LS}{s t:Store}(a:Sub V s)(b:∀x o,s x=some o->t x=some o):Sub V t:=fun x o h=>b x o (a x o h)
theorem Up.less{α:Type}{K:α->LS->Prop}{v:α}{s t:Store}(h:Up K v s)(b:∀x o,s x=some o->t x=some o):Up K v t:=by
 obtain ⟨V,e,k,q⟩:=h;exact ⟨V,e.trans b,k,q⟩
theorem Sub.at{V:LS}{s:Store}{i:Nat}{a:Addr}{o:AObj}(h:Sub V s)(k:okS V)(q:slot V i=.at a o):s a=some o:=h _ _ (Au k q)
theorem frW.freshS{V:LS}{s:Store}{K:KV}{mu:Option Nat}{o:AObj}{fz:AV}(k:okS V)(hs:Sub V s)(h:frW mu o fz V K):Fresh s o fz (Up K):=by
 rcases h.fresh k with q | ⟨i,q⟩
 ·exact .inl (q.less hs)
 ·refine .inr ⟨i,fun a hd=>(q a fun d=>hd ?_).less fun x p e=>?_⟩
  ·intro z
   cases e:Av V a with
   | none=>exact d e
   | some o'=>rw [hs _ _ e] at z;cases z
  ·by_cases z:x=a
   ·clear hd;subst z;rw [Store.set_self] at e ⊢;exact e
   ·rw [Store.set_ne _ _ z] at e ⊢;exact hs _ _ e
section
variable {F:Fx S}{m:Vars}{V:LS}{X:Value->ae->Prop}{K:KV}
theorem tyW_ok{a:AV}{t:Ty}{P:Prop}(k:okS V)(h:atW V a (tyW V a=some t/\P)):tyA (Av V) a=some t/\P:=by
 cases a with
 | loc x i =>
  unfold atW at h;unfold tyA;dsimp only at h ⊢;unfold tyW at h;dsimp only at h
  cases q:slot V i with
  | no=>rw [q] at h;exact h.elim
  | «at» b o =>
   rw [q] at h;obtain ⟨rfl,h,p⟩:=h;rw [Au k q];refine ⟨?_,p⟩
   cases o<;>exact h
 | _=>exact h
theorem atW.imp{a:AV}{P Q:Prop}(g:P->Q)(h:atW V a P):atW V a Q:=by
 cases a with
 | loc x i =>
  unfold atW at h ⊢;dsimp only at h ⊢
  cases q:slot V i with
  | no=>rw [q] at h;exact h.elim
  | «at» b o=>rw [q] at h;exact ⟨h.1,g h.2⟩
 | _=>exact g h
theorem isiW_ok{a c:AV}{ex:List Nat}(G:Good S W)(hx:∀i,ex.contains i=true->W.U i=true)(k:okS V)(h:isiW ex a c V K):CT F m (Av V) (.builtin "isinstance") [a,c] (Up K) X:=by
 cases c with
 | cls j =>
  have B:atW V a (match isi? V a j with
   | some b=>K (.bool b) V
   | aa=>False)->CT F m (Av V) (.builtin "isinstance") [a,.cls j] (Up K) X:=fun h=>by
   cases hb:isi? V a j with
   | none =>
    rw [hb] at h;exact (tyW_ok (t:=.none) (P:=False) k (h.imp iq)).2.elim
   | some b =>
    rw [hb] at h;refine X1pp (AG hb) fun t ht hb=>?_;refine X1pp (AG hb) fun u hu e=>?_;refine Ao (tyW_ok k (h.imp fun p=>⟨ht,p⟩)) fun h1 h2=>?_
    cases hp:isP t u with
    | false=>rw [hp] at e;cases e
    | true =>
     rw [hp] at e
     cases e
     exact CT.isinst hp h1 (Hc G hu).1 (Hc G hu).2 (.now k h2)
  exact B h
 | _=>exact h.elim
theorem lenW_ok{a:AV}(k:okS V)(h:lenW a V K):CT F m (Av V) (.builtin "len") [a] (Up K) X:=by
 cases a with
 | str x=>exact CT.lenStr h.1 (.now k h.2)
 | tup l=>exact CT.lenTup h.1 (.now k h.2)
 | nums l=>exact CT.lenInts h.1 (.now k h.2)
 | list l=>exact CT.lenList rfl h.1 (.now k h.2)
 | dict l=>exact CT.lenDict rfl h.1 (.now k h.2)
 | loc ad i =>
  unfold lenW at h;dsimp only at h
  cases q:slot V i with
  | no=>rw [q] at h;exact h.elim
  | «at» b o =>
   rw [q] at h
   cases o with
   | list l=>refine Bp h fun Z0 h1 h2=>?_;subst Z0;exact CT.lenList (BE (Au k q)) h1 (.now k h2)
   | dict l=>refine Bp h fun Z1 h1 h2=>?_;subst Z1;exact CT.lenDict (BV (Au k q)) h1 (.now k h2)
   | _=>exact h.elim
 | _=>exact h.elim
theorem listW_ok{q:Bool}{mu:Option Nat}{a:AV}(hq:q=true->S.hx=aa)(k:okS V)(h:listW q mu a V K):CT F m (Av V) (.type "list") [a] (Up K) X:=by
 cases a with
 | tup l=>exact CT.listTup h.1 (h.2.fresh k)
 | list l=>exact CT.listList rfl h.1 (h.2.fresh k)
 | dict l=>refine Bp (quiet.out h) fun e h1 h2=>?_;exact CT.listDict (hq e) rfl h1 (h2.fresh k)
 | loc ad i =>
  unfold listW at h;dsimp only at h
  cases q:slot V i with
  | no=>rw [q] at h;exact h.elim
  | «at» b o =>
   rw [q] at h
   cases o with
   | list l=>refine Bp h fun Z0 h1 h2=>?_;subst Z0;exact CT.listList (BE (Au k q)) h1 (h2.fresh k)
   | dict l=>obtain ⟨rfl,h⟩:=h;obtain ⟨e,h1,h2⟩:=quiet.out h;exact CT.listDict (hq e) (BV (Au k q)) h1 (h2.fresh k)
   | _=>exact h.elim
 | _=>exact h.elim
theorem ints?_out:∀{u:List AV}{l:List Int},ints? u=some l->u=l.map .int
 | [],l,h=>by cases h;rfl
 | a::r,l,h=>by
  refine X1pp (AG (show a.int?.bind (fun x=>(ints? r).bind fun l=>some (x::l))=some l from h)) fun x h1 h=>?_
  refine X1pp (AG h) fun k h2 h=>?_
  cases h
  rw [AV.int?_out h1,ints?_out h2];rfl
theorem JT{u:List AV}(k:okS V)(h:JU u V K):CT F m (Av V) (.type "range") u (Up K) X:=by
 unfold JU at h
 cases q:ints? u with
 | none=>rw [q] at h;exact h.elim
 | some l =>
  rw [q] at h;rw [ints?_out q]
  cases l with
  | nil=>exact h.elim
  | cons a l =>
   cases l with
   | nil=>exact CT.range1 (.now k h)
   | cons b l =>
    cases l with
    | nil=>exact CT.range2 (.now k h)
    | cons c l =>
     cases l with
     | nil=>exact CT.range3 h.1 h.2.1 (.now k h.2.2)
     | cons _ _=>exact h.elim
theorem Cf{u:List AV}{P:AV->Prop}(h:match u with | [a]=>P a | _=>False):∃a,u=[a]/\P a:=by
 cases u with
 | nil=>exact h.elim
 | cons a r =>
  cases r with
  | nil=>exact ⟨a,rfl,h⟩
  | cons _ _=>exact h.elim
theorem He{u:List AV}{P:AV->AV->Prop}(h:match u with | [a,b]=>P a b | _=>False):∃a b,u=[a,b]/\P a b:=by
 cases u with
 | nil=>exact h.elim
 | cons a r =>
  cases r with
  | nil=>exact h.elim
  | cons b r =>
   cases r with
   | nil=>exact ⟨a,b,rfl,h⟩
   | cons _ _=>exact h.elim
theorem nil_of{u:List AV}{P:Prop}(h:match u with | []=>P | _=>False):u=[]/\P:=by
 cases u with
 | nil=>exact ⟨rfl,h⟩
 | cons _ _=>exact h.elim
noncomputable def AllTo(P:Nat->Prop):Nat->Prop
 | 0=>True
 | n+1=>AllTo P n/\P n
theorem AllTo.get{P:Nat->Prop}{i:Nat}:∀{n:Nat},AllTo P n->i<n->P i
 | 0,_,q=>(d3 _ q).elim
 | n+1,h,q=>(Nat.lt_or_eq_of_le (Nat.le_of_lt_succ q)).elim (fun q=>h.1.get q) fun q=>q▸h.2
theorem buW_ok{q:Bool}{ex:List Nat}{mu:Option Nat}{i:Nat}{u:List AV}(G:Good S W)(hx:∀i,ex.contains i=true->W.U i=true)(hq:q=true->S.hx=aa)(k:okS V)(hi:i<17)(h:buW q ex mu i u V K):CT F m (Av V) (bv i) u (Up K) X:=by
 refine AllTo.get (P:=fun i=>∀u,buW q ex mu i u V K->CT F m (Av V) (bv i) u (Up K) X) (n:=17) ?_ hi u h;refine ⟨⟨⟨⟨⟨⟨⟨⟨⟨⟨⟨⟨⟨⟨⟨⟨⟨trivial,fun Z h=>?_⟩,fun Z h=>?_⟩,fun Z h=>h.elim⟩,fun Z h=>h.elim⟩,fun Z h=>?_⟩,fun Z h=>?_⟩,fun Z h=>h.elim⟩,fun Z h=>?_⟩,fun Z h=>JT k h⟩,fun Z h=>h.elim⟩,fun Z h=>h.elim⟩,fun Z h=>?_⟩,fun Z h=>h.elim⟩,fun Z h=>?_⟩,fun Z h=>?_⟩,fun Z h=>?_⟩,fun Z h=>?_⟩
 ·refine X1pp (Cf h) fun a Z0 h=>?_
  subst Z0;exact lenW_ok k h
 ·refine X2pp (He h) fun a b Z1 h=>?_
  subst Z1;exact isiW_ok G hx k h
 ·exact h.elim
 ·refine X1pp (Cf h) fun a Z2 h=>?_
  subst Z2;exact listW_ok hq k h
 ·refine X1pp (Cf h) fun a Z3 h=>?_
  subst Z3
  rcases h with h | h
  ·obtain ⟨l,h1,⟨h2,h3,h4⟩,h⟩:=ddW.out k h
   exact CT.dictCopy h1 h2 h3 h4 (h.fresh k)
  ·refine Ao (quiet.out h) fun e h=>?_
   refine X1pp (dlW.out k h) fun Z h1 Y2=>?_;refine X1ppp Y2 fun l Z4 h2 h=>?_;clear Y2;subst Z4;exact CT.dictOf (hq e) h1 h2.1 h2.2 (h.fresh k)
 ·refine X1pp (Cf h) fun a Z5 h=>?_
  subst Z5;refine Ao (quiet.out h) fun e h=>?_;refine X1lp a (spotW.out h) fun p h=>?_;exact CT.sum2 (hq e) h.1.1 h.1.2 (.now k h.2)
 ·refine X2pp (He h) fun a b Z6 h=>?_
  subst Z6;refine Ao (quiet.out h) fun e h=>?_;refine X2llp a b (int2.out h) fun x y h=>?_;exact CT.min2' (hq e) (.now k h)
 ·refine X2pp (He h) fun a b Z7 h=>?_
  subst Z7;refine Ao (quiet.out h) fun e h=>?_;refine X2llp a b (int2.out h) fun x y h=>?_;exact CT.max2' (hq e) (.now k h)
 ·refine X1pp (Cf h) fun a Z8 h=>?_
  subst Z8;refine Ao (quiet.out h) fun e h=>?_;refine X1pp (h.out k) fun l h1 Y3=>?_;refine X1pp Y3 fun bs Z9 h=>?_;clear Y3;subst Z9;exact CT.all (hq e) h1 (.now k h)
 ·refine X1pp (Cf h) fun a Y0 h=>?_
  subst Y0;refine Ao (quiet.out h) fun e h=>?_;refine X1pp (h.out k) fun l h1 Y4=>?_;refine X1pp Y4 fun bs Y1 h=>?_;clear Y4;subst Y1;exact CT.any (hq e) h1 (.now k h)
end
noncomputable def Snd(S:Sta)(k:Nat)(fv:Value)(f:FS):Prop:=∀F:Fx S,k<=F.k->∀m mu avs V K X,okS V->ownW f mu avs V K X->CT F m (Av V) fv avs (Up K) (XF F m (Up X))
structure TabOk(S:Sta)(W:Wd)(k:Nat)(Φ:Tab):Prop where
 good:Good S W
 q:Φ.q=true->S.hx=aa
 ex:∀i,Φ.ex.contains i=true->W.U i=true
 fn:∀i f,Gq Φ.fn i=some f->(W.U i=true/\i≠28)/\Snd S k (S.cv i) f
 me:∀n f,Gq Φ.me n=some f->∃fa,W.M n=some fa/\Snd S k (.ref fa) f
 ky:∀i f,Gq Φ.ky i=some f->W.U i=true/\∃fa kf,S.cv i=.ref fa/\kf+2<=k/\∀x,(f x).isSome=true->KeyT S kf (.ref fa) (Do f) [x]
set_option tactic.hygienic true in
theorem callW_ok{Φ:Tab}{k:Nat}{F:Fx S}{m:Vars}{V:LS}{X:XL}{K:KV}{mu:Option Nat}{i:Nat}{u:List AV}(T:TabOk S W k Φ)(hk:k<=F.k)(o:okS V)(h:callW Φ X mu i u V K) :
  (W.U i=true/\i≠28)/\CT F m (Av V) (S.cv i) u (Up K) (XF F m (Up X)):=by
 unfold callW at h
 split at h
 ·rename_i q
  have q:=ef.mp q;refine ⟨⟨T.good.bu i q,by exact fun z0=>lin [i] [] .no [.c V0 K17,.D (-1) V0 K28] rfl q z0⟩,?_⟩
  rw [T.good.base i q];exact buW_ok T.good T.ex T.q o q h
 ·split at h
  ·rename_i f hf
   exact ⟨(T.fn i f hf).1,(T.fn i f hf).2 F hk m mu u V K X o h⟩
  ·exact h.elim
inductive SlC(V:LS)(P:Addr->Nat->List AV->Prop)(P':Addr->Nat->List (Af×AV)->Prop):AV->Prop
 | l (x:Addr)(i:Nat)(l:List AV)(z:slot V i=.at x (.list l))(h:P x i l):SlC V P P' (.loc x i)
 | d (x:Addr)(i:Nat)(l:List (Af×AV))(z:slot V i=.at x (.dict l))(h:P' x i l):SlC V P P' (.loc x i)
theorem slotC.out{V:LS}{a:AV}{P:Addr->Nat->List AV->Prop}{P':Addr->Nat->List (Af×AV)->Prop}(h:slotC V a P P'):SlC V P P' a:=by
 cases a with
 | loc x i =>
  unfold slotC at h;dsimp only at h
  cases q:slot V i with
  | no=>rw [q] at h;exact h.elim
  | «at» b o =>
   rw [q] at h
   cases o with
   | list l=>obtain ⟨rfl,h⟩:=h;exact .l _ _ _ q h
   | dict l=>obtain ⟨rfl,h⟩:=h;exact .d _ _ _ q h
   | _=>exact h.elim
 | _=>exact h.elim
theorem slotL.out{V:LS}{a:AV}{P:Addr->Nat->List AV->Prop}(h:slotL V a P):∃x i l,a=.loc x i/\slot V i=.at x (.list l)/\P x i l:=by
 cases a with
 | loc x i =>
  unfold slotL at h;dsimp only at h
  cases q:slot V i with
  | no=>rw [q] at h;exact h.elim
  | «at» b o =>
   rw [q] at h
   cases o with
   | list l=>refine Ao h fun Z0 h=>?_;subst Z0;exact ⟨_,_,_,rfl,q,h⟩
   | _=>exact h.elim
 | _=>exact h.elim
theorem obj?_out{s:Slot}{b:Addr×AObj}(h:s.obj?=some b):s=.at b.1 b.2:=by
 cases s with
 | no=>cases h
 | «at» a o=>cases h;rfl
theorem EU{l:List (Str×AV)}{p:(Str×AV)×(Str×AV)}(q:two? l=some p)(e1:p.1.1 = "texts")(e2:p.2.1 = "own"):l=Ft p.1.2 p.2.2:=by
 rw [two?_out q];unfold Ft;rw [<- e1,<- e2]
theorem fields?_out{V:LS}{i:Nat}{f:(Addr×Addr)×Addr×List (Str×AV)}(h:fields? V i=some f):slot V i=.at f.1.1 (.inst f.1.2)/\slot V (i+1)=.at f.2.1 (.attrs f.2.2):=by
 refine X1pp (AG h) fun b h1 h=>?_;refine X1pp (AG h) fun d h2 h=>?_;refine X1pp (AG h) fun c h3 h=>?_;refine X1pp (AG h) fun l h4 h=>?_
 cases h
 exact ⟨by rw [obj?_out h1,AObj.inst?_out h2],by rw [obj?_out h3,AObj.attrs?_out h4]⟩
theorem instW.out{V:LS}{s:Store}{a:AV}{P:AV->AV->Prop}(k:okS V)(hs:Sub V s)(h:instW V a P):∃t o,D8 s a=some (Ft t o)/\P t o:=by
 cases a with
 | inst l =>
  have h:(match two? l with
   | some p=>(p.1.1 = "texts"/\p.2.1 = "own")/\P p.1.2 p.2.2
   | aa=>False):=h
  cases q:two? l with
  | none=>rw [q] at h;exact h.elim
  | some p=>rw [q] at h;rw [EU q h.1.1 h.1.2];exact ⟨_,_,rfl,h.2⟩
 | loc x i =>
  have h:(match fields? V i with
   | some f=>(match two? f.2.2 with
    | some p=>(f.1.1=x/\f.2.1=f.1.2/\p.1.1 = "texts"/\p.2.1 = "own")/\P p.1.2 p.2.2
    | aa=>False)
   | aa=>False):=h
  cases q:fields? V i with
  | none=>rw [q] at h;exact h.elim
  | some f =>
   rw [q] at h;dsimp only at h
   cases q2:two? f.2.2 with
   | none=>rw [q2] at h;exact h.elim
   | some p =>
    rw [q2] at h;obtain ⟨⟨rfl,e2,e3,e4⟩,hP⟩:=h;refine Ao (fields?_out q) fun q1 q3=>?_;refine ⟨_,_,?_,hP⟩;exact (EO (hs.at k q1) (e2▸hs.at k q3)).trans (congrArg some (EU q2 e3 e4))
 | _=>exact h.elim
structure Sd(S:Sta)(k:Nat)(e:E)(f:WT)(X:XL):Prop where
 v:∀F:Fx S,k<=F.k->∀mu m V K,okS V->f.v mu m V K->ET F (vr m) (Av V) e (Up K) (XF F (vr m) (Up X))
 t:∀F:Fx S,k<=F.k->∀m V K,okS V->f.t m V K->TT F (vr m) (Av V) e (Up K) (XF F (vr m) (Up X))
class inductive SdL(S:Sta)(k:Nat)(X:XL):List E->List WT->Prop
 | nil:SdL S k X [] []
 | cons {e:E}{f:WT}{es:List E}{fs:List WT}(h:Sd S k e f X)(t:SdL S k X es fs):SdL S k X (e::es) (f::fs)
section
variable {k:Nat}{F:Fx S}{m:M}{X:XL}
theorem Sd.on{e:E}{f:WT}(d:Sd S k e f X)(hk:k<=F.k){mu:Option Nat}{V:LS}{s:Store}{K:KV}{Q:AV->Store->Prop}(o:okS V)(hs:Sub V s)(h:f.v mu m V K)(q:∀a Aa Ac,okS Aa->Sub Aa Ac->K a Aa->Q a Ac):ET F (vr m) s e Q (XF F (vr m) (Up X)) :=
 ET.less hs (ET.mono (d.v F hk mu m V K o h) fun a Ac z=>by obtain ⟨Aa,e,Al,z⟩:=z;exact q a Aa Ac Al e z)
theorem Sd.onT{e:E}{f:WT}(d:Sd S k e f X)(hk:k<=F.k){V:LS}{s:Store}{K:KB}{Q:Bool->Store->Prop}(o:okS V)(hs:Sub V s)(h:f.t m V K)(q:∀a Aa Ac,okS Aa->Sub Aa Ac->K a Aa->Q a Ac):TT F (vr m) s e Q (XF F (vr m) (Up X)) :=
 TT.less hs (TT.mono (d.t F hk m V K o h) fun a Ac z=>by obtain ⟨Aa,e,Al,z⟩:=z;exact q a Aa Ac Al e z)
theorem DC(hk:k<=F.k){es:List E}{fs:List WT}(d:SdL S k X es fs):∀{V:LS}{s:Store}{K:List AV->LS->Prop}{Q:List AV->Store->Prop},okS V->Sub V s->Gn fs m V K->(∀a Aa Ac,okS Aa->Sub Aa Ac->a.length=es.length->K a Aa->Q a Ac)->EsT F (vr m) s es Q (XF F (vr m) (Up X)):=by
 induction d with
 | nil=>exact fun o hs h q=>EsT.nil (q _ _ _ o hs rfl h)
 | cons d _ ih=>exact fun o hs h q=>EsT.cons (d.on hk o hs h fun a Aa Ac Al Ag Ad=>ih Al Ag Ad fun l Ab Aj AF At hl Ah=>q _ Ab Aj AF At (congrArg e9 hl) Ah)
theorem JG(hk:k<=F.k){es:List E}{fs:List WT}{V:LS}{s:Store}{K:List AV->LS->Prop}{Q:List AV->Store->Prop}(d:SdL S k X es fs)(o:okS V)(hs:Sub V s)(h:Gn fs m V K)(q:∀a Aa Ac,okS Aa->Sub Aa Ac->K a Aa->Q a Ac):EsT F (vr m) s es Q (XF F (vr m) (Up X)):=DC hk d o hs h fun a Aa Ac Al Ag Z=>q a Aa Ac Al Ag
theorem Cw(hk:k<=F.k){es:List E}{fs:List WT}{V:LS}{s:Store}{K:List AV->LS->Prop}{Q:List AV->Store->Prop}(d:SdL S k X es fs)(o:okS V)(hs:Sub V s)(h:Gn fs m V K)(q:∀a Aa Ac,okS Aa->Sub Aa Ac->K a Aa->Q a Ac):ArgsT F (vr m) s es Q (XF F (vr m) (Up X)):=by
 cases d with
 | nil=>exact q _ V s o hs h
 | cons d t=>exact JG hk (.cons d t) o hs h q
theorem andT_ok(hk:k<=F.k){K:KB}{es:List E}{fs:List WT}(d:SdL S k X es fs):∀{V:LS}{s:Store},okS V->Sub V s->andT fs m V K->AndT F (vr m) (XF F (vr m) (Up X)) (Up K) es s:=by
 induction d with
 | nil=>exact fun o hs h=>⟨_,hs,o,h⟩
 | cons d _ ih =>
  exact fun o hs h=>d.onT hk o hs h fun b Aa Ac Al Ag Ad=>by
   cases b with
   | true=>exact ih Al Ag Ad
   | false=>exact ⟨Aa,Ag,Al,Ad⟩
theorem orT_ok(hk:k<=F.k){K:KB}{es:List E}{fs:List WT}(d:SdL S k X es fs):∀{V:LS}{s:Store},okS V->Sub V s->orT fs m V K->OrT F (vr m) (XF F (vr m) (Up X)) (Up K) es s:=by
 induction d with
 | nil=>exact fun o hs h=>⟨_,hs,o,h⟩
 | cons d _ ih =>
  exact fun o hs h=>d.onT hk o hs h fun b Aa Ac Al Ag Ad=>by
   cases b with
   | true=>exact ⟨Aa,Ag,Al,Ad⟩
   | false=>exact ih Al Ag Ad
theorem andV_ok(hk:k<=F.k){K:KV}{es:List E}{fs:List WT}(d:SdL S k X es fs):∀{V:LS}{s:Store},okS V->Sub V s->andV fs m V K->AndV F (vr m) (XF F (vr m) (Up X)) (Up K) es s:=by
 induction d with
 | nil=>exact fun Z Z h=>h
 | cons d t ih =>
  cases t with
  | nil=>exact fun o hs h=>d.on hk o hs h fun a Aa Ac Al Ag Ad=>⟨Aa,Ag,Al,Ad⟩
  | cons d' t =>
   exact fun o hs h=>d.on hk o hs h fun a Aa Ac Al Ag Ad=>by
    refine X1lp a (boolW.out Ad) fun b Ad=>?_;refine ⟨b,rfl,?_⟩
    cases b with
    | true=>exact ih Al Ag Ad
    | false=>exact ⟨Aa,Ag,Al,Ad⟩
theorem orV_ok(hk:k<=F.k){K:KV}{es:List E}{fs:List WT}(d:SdL S k X es fs):∀{V:LS}{s:Store},okS V->Sub V s->orV fs m V K->OrV F (vr m) (XF F (vr m) (Up X)) (Up K) es s:=by
 induction d with
 | nil=>exact fun Z Z h=>h
 | cons d t ih =>
  cases t with
  | nil=>exact fun o hs h=>d.on hk o hs h fun a Aa Ac Al Ag Ad=>⟨Aa,Ag,Al,Ad⟩
  | cons d' t =>
   exact fun o hs h=>d.on hk o hs h fun a Aa Ac Al Ag Ad=>by
    refine X1lp a (boolW.out Ad) fun b Ad=>?_;refine ⟨b,rfl,?_⟩
    cases b with
    | true=>exact ⟨Aa,Ag,Al,Ad⟩
    | false=>exact ih Al Ag Ad
theorem pairW_ok(hk:k<=F.k){K:List (AV×AV)->LS->Prop}{Q:List (AV×AV)->Store->Prop}(q:∀a Aa Ac,okS Aa->Sub Aa Ac->K a Aa->Q a Ac){ks:List E}{fs:List WT}(d:SdL S k X ks fs):∀{vs:List E}{gs:List WT}{r:List (AV×AV)}{V:LS}{s:Store},SdL S k X vs gs->okS V->Sub V s->pairW fs gs r m V K->ER F (vr m) (XF F (vr m) (Up X)) Q ks vs r s:=by
 induction d with
 | nil =>
  intro vs gs r V s d' o hs h
  cases d' with
  | nil=>exact q r V s o hs h
  | cons _ _=>exact h.elim
 | cons d _ ih =>
  intro vs gs r V s d' o hs h
  cases d' with
  | nil=>exact h.elim
  | cons d' t=>exact d.on hk o hs h fun a Aa Ac Al Ag Ad=>d'.on hk Al Ag Ad fun b Ab Aj AF At Ah=>ih t AF At Ah
theorem noUp{F:Fx S}{m:Vars}{e:Value}{s:ae}(x:XF F m (Up CA) e s):False:=x
theorem testW_ok(hk:k<=F.k){es:List E}{fs:List WT}{V:LS}{s:Store}{K:KB}{Q:Bool->Store->Prop}(d:SdL S k CA es fs)(o:okS V)(hs:Sub V s)(h:Gs fs m V K)(q:∀a Aa Ac,okS Aa->Sub Aa Ac->K a Aa->Q a Ac):TestT F (vr m) s es Q:=by
 cases d with
 | nil=>exact q _ V s o hs h
 | cons d t =>
  cases t with
  | nil=>exact (d.onT hk o hs h q).monoX fun Z Z x=>noUp x
  | cons _ _=>exact h.elim
end
end
section
variable {S:Sta}{W:Wd}
structure Turn(ok:Option Nat)(okP:Store->Store->Prop)(I:LS->Prop):Prop where
 go:∀{Ay:LS}{AH:Store}{Ab:LS}{Aj:Store}{P:Prop},okS Ay->okS Ab->Sub Ay AH->Sub Ab Aj->I Ay->stays ok Ay Ab P->(okP AH Aj/\I Ab)/\P
theorem Turn.free{u:Store->Store->Prop}(h:∀s t,u s t):Turn aa u (fun Z=>True):=⟨fun Z Z Z Z Z p=>⟨⟨h _ _,trivial⟩,p⟩⟩
theorem Turn.loc{x:Addr}{i j:Nat}{o:AObj}:Turn (some i) (okL (.loc x j)) (fun V=>slot V i=.at x o):=⟨fun k₀ k₂ h₀ Ah e p=>by
 have e2:=p.1.trans e;exact ⟨⟨(Ah.at k₂ e2).trans (h₀.at k₀ e).symm,e2⟩,p.2⟩⟩
inductive Iters(F:Fx S)(s:Store)(a:AV)(V:LS)(G:KG):Prop
 | mk (items:List AV)(okP:Store->Store->Prop)(ok:Option Nat)(I:LS->Prop)(it:IterT F s a items okP)(tn:Turn ok okP I)(i:I V)(g:G items ok V):Iters F s a V G
theorem HB{F:Fx S}{q:Bool}{a:AV}{V:LS}{s:Store}{G:KG}(hq:q=true->S.hx=aa)(o:okS V)(hs:Sub V s)(h:iterW q a V G):Iters F s a V G:=by
 cases a with
 | tup l=>refine Ao (quiet.out h) fun e h=>?_;exact ⟨_,_,_,_,IterT.tup (hq e),.free fun Z Z=>trivial,trivial,h⟩
 | list l=>refine Ao (quiet.out h) fun e h=>?_;exact ⟨_,_,_,_,IterT.list (hq e) (dl_list _ _),.free fun Z Z=>trivial,trivial,h⟩
 | str x=>refine Bp (quiet.out h) fun e h1 h=>?_;exact ⟨_,_,_,_,IterT.str (hq e) h1,.free fun Z Z=>trivial,trivial,h⟩
 | dict l=>refine Ao (quiet.out h) fun e h=>?_;exact ⟨_,_,_,_,IterT.dict (hq e),.free fun Z Z=>trivial,trivial,h⟩
 | range a b c=>exact ⟨_,_,_,_,IterT.range h.1,.free fun Z Z=>trivial,trivial,h.2⟩
 | loc x i =>
  unfold iterW at h;dsimp only at h
  cases z:slot V i with
  | no=>rw [z] at h;exact h.elim
  | «at» b p =>
   rw [z] at h
   cases p with
   | list l =>
    obtain ⟨rfl,h⟩:=h;obtain ⟨e,h⟩:=quiet.out h;exact ⟨_,_,_,_,IterT.list (hq e) (BE (hs.at o z)),.loc,z,h⟩
   | _=>exact h.elim
 | _=>exact h.elim
theorem Fk{k:Nat}{F:Fx S}{i:Nat}{B:E}{f:WT}{cs:List E}{fs:List WT}{ok:Option Nat}{u:Store->Store->Prop}{I:LS->Prop}{m:M}{K:List AV->LS->Prop}{Q:List AV->Store->Prop}(d:Sd S k B f CA)(dt:SdL S k CA cs fs)(hk:k<=F.k)(tn:Turn ok u I)(q:∀a Aa Ac,okS Aa->Sub Aa Ac->K a Aa->Q a Ac) :
  ∀{items ys:List AV}{V:LS}{s:Store},okS V->Sub V s->I V->D2 i (f.v aa) (Gs fs) ok m K items ys V->Fs F i B cs u (vr m) Q items ys s
 | [],ys,V,s,o,hs,_,h=>q _ V s o hs h
 | x::r,ys,V,s,o,hs,hi,h=>by
  refine (?_:TestT F ((vr m).set i x) s cs _);rw [<- Fu];refine testW_ok hk dt o hs h fun b Aa Ac Al Ag Ad=>?_
  cases b with
  | true =>
   rw [if_pos rfl];refine (d.on hk Al Ag Ad fun y Ab Aj AF At Ah=>?_).monoX fun Z Z x=>noUp x;obtain ⟨⟨h3,h4⟩,h5⟩:=tn.go o AF hs At hi Ah;exact ⟨h3,Fk d dt hk tn q AF At h4 h5⟩
  | false =>
   rw [if_neg (by decide)]
   obtain ⟨⟨h3,h4⟩,h5⟩:=tn.go o Al hs Ag hi Ad;exact ⟨h3,Fk d dt hk tn q Al Ag h4 h5⟩
theorem Fresh.mono{V:Store}{o:AObj}{fz:AV}{Q Q':AV->Store->Prop}(h:Fresh V o fz Q)(k:∀a s,Q a s->Q' a s):Fresh V o fz Q':=by
 rcases h with q | ⟨i,q⟩
 ·exact .inl (k _ _ q)
 ·exact .inr ⟨i,fun a d=>k _ _ (q a d)⟩
theorem Fj{Q:AV->Store->Prop}{Φ:Tab}{k:Nat}{F:Fx S}{m:M}{X:XL}{V:LS}{K:KV}{mu:Option Nat}{y B:E}{i:Nat}{cs:List E}{f g:WT}{fs:List WT}{p:Pat}(T:TabOk S W k Φ)(hk:k<=F.k)(ds:Sd S k B g X)(d:Sd S k y f CA)(dt:SdL S k CA cs fs)(o:okS V)(q:∀a s,Up K a s->Q a s)
  (h:g.v aa m V (fun a Aa=>iterW Φ.q a Aa (fun items ok Ab=>items.length<=big/\D2 i (f.v aa) (Gs fs) ok m (fun ys Ap=>frW mu (.list ys) (.list ys) Ap K) items [] Ab))) :
  SrcT F (vr m) (Av V) p B (fun items u s=>items.length<=big/\∀F':Fx S,F'.tb=F.tb->F'.k=F.k->Fs F' i y cs u (vr m) (fun ys Aj=>Fresh Aj (.list ys) (.list ys) Q) items [] s) (XF F (vr m) (Up X)) :=
 SrcT.val (ds.on hk o Sub.rfl h fun a Aa Ac Al Ag Ad=>by
  obtain ⟨items,u,ok,I,it,tn,hi,hz,Ah⟩:=HB (F:=F) T.q Al Ag Ad;exact ⟨items,u,it,hz,fun F' Z e=>Fk d dt (by rw [e];exact hk) tn (fun ys Ap BB C4 BQ AI=>(AI.freshS C4 BQ).mono q) Al Ag hi Ah⟩)
section
variable {k:Nat}{X:XL}{Φ:Tab}
theorem Sd.vt{e:E}{f:Option Nat->M->LS->KV->Prop}(hp:Ho e=true)(h:∀F:Fx S,k<=F.k->∀mu m V K,okS V->f mu m V K->ET F (vr m) (Av V) e (Up K) (XF F (vr m) (Up X))):Sd S k e (vt f) X :=
 ⟨h,fun F hk m V K o q=>TT.val hp (ET.mono (h F hk aa m V _ o q) fun a s z=>by
  obtain ⟨Aa,e,Al,z⟩:=z;refine X1lp a (boolW.out z) fun b z=>?_;exact ⟨b,rfl,Aa,e,Al,z⟩)⟩
theorem Sd.no{e:E}:Sd S k e ⟨fun Z Z Z Z=>False,fun Z Z Z=>False⟩ X:=⟨fun Z Z Z Z Z Z Z h=>h.elim,fun Z Z Z Z Z Z h=>h.elim⟩
set_option tactic.hygienic true in
theorem few.out{α:Type}{l:List α}{P:Prop}(h:few l P):l.length<15/\P:=by
 unfold few at h
 split at h
 ·rename_i q;exact ⟨ef.mp q,h⟩
 ·exact h.elim
theorem Kg{n:Nat}(h:n<15):n<=big:=aB (cK h) (by decide)
theorem tup_ok{es:List E}{fs:List WT}(d:SdL S k X es fs):Sd S k (.tup es) (Mine.Internal.vt fun Z m V K=>few es (Gn fs m V (fun l V'=>K (.tup l) V'))) X :=
 Sd.vt rfl fun F hk mu m V K o h=>by
  refine Ao h.out fun U h=>?_;exact ET.tup (DC hk d o Sub.rfl h fun a Aa Ac Al Ag hl Ad=>⟨by rw [hl];exact Kg U,Aa,Ag,Al,Ad⟩)
theorem list_ok{es:List E}{fs:List WT}(d:SdL S k X es fs):Sd S k (.list es) (Mine.Internal.vt fun mu m V K=>few es (Gn fs m V (fun l V'=>frW mu (.list l) (.list l) V' K))) X :=
 Sd.vt rfl fun F hk mu m V K o h=>by
  refine Ao h.out fun U h=>?_;exact ET.list (DC hk d o Sub.rfl h fun a Aa Ac Al Ag hl Ad=>⟨by rw [hl];exact Kg U,Ad.freshS Al Ag⟩)
theorem pairsX{F:Fx S}{m:Vars}{X X':Value->ae->Prop}{Q:List (AV×AV)->Store->Prop}(x:∀e s,X e s->X' e s):∀{ks vs:List E}{r:List (AV×AV)}{V:Store},ER F m X Q ks vs r V->ER F m X' Q ks vs r V
 | [],[],_,_,h=>h
 | _::_,_::_,_,_,h=>(ET.monoX h x).mono fun a Aa q=>(ET.monoX q x).mono fun b Ab q=>pairsX x q
 | [],_::_,_,_,h=>h.elim
 | _::_,[],_,_,h=>h.elim
set_option tactic.hygienic true in
theorem dict_ok{ks vs:List E}{fs gs:List WT}(d:SdL S k CA ks fs)(d':SdL S k CA vs gs):Sd S k (.dict ks vs) (Mine.Internal.vt fun mu m V K=>(match cw ks.length vs.length && gI ks.length 15 with
  | true=>pairW fs gs [] m V (fun ps V'=>dictW mu ps V' K)
  | false=>False)) X :=
 Sd.vt rfl fun F hk mu m V K o h=>by
  split at h
  ·rename_i q
   refine Ao (aU.mp q) fun q1 q2=>?_;have q1:=bU q1;have q2:=ef.mp q2;have B:∀{F':Fx S}(ps:List (AV×AV))(Aa:LS)(Ac:Store),okS Aa->Sub Aa Ac->dictW mu ps Aa K->∃l,mkD ps []=some l/\ps.length<=15/\Fresh Ac (.dict l) (.dict l) (Up K):=fun {F'} ps Aa Ac Al Ag Ad=>by
    unfold dictW at Ad
    split at Ad
    ·rename_i z
     split at Ad
     ·rename_i l e;exact ⟨l,e,Nat.ble_eq.mp z,Ad.freshS Al Ag⟩
     ·exact Ad.elim
    ·exact Ad.elim
   cases d with
   | nil =>
    cases d' with
    | nil =>
     refine X1ppp (B (F':=F) [] V (Av V) o Sub.rfl h) fun l e Z hf=>?_
     cases e
     exact ET.dict0 hf
    | cons _ _=>cases q1
   | cons d t =>
    cases d' with
    | nil=>cases q1
    | cons d' t' =>
     refine (ET.dict (X:=NoX) (e6 q1) (Nat.lt_of_succ_lt q2) fun F' lk=>?_).monoX fun Z Z z=>z.elim;exact pairsX (fun Z Z x=>noUp x) (pairW_ok (F:=F') (by rw [lk.2.2.2];exact hk) (fun ps Aa Ac Al Ag Ad=>B (F':=F') ps Aa Ac Al Ag Ad) (.cons d t) (.cons d' t') o Sub.rfl h)
  ·exact h.elim
theorem bin_ok{op:hV}{l r:E}{f g:WT}(d:Sd S k l f X)(d':Sd S k r g X)(hg:∀n:Int,r=.int n->g=Mine.Internal.vt fun Z Z V K=>K (.int n) V):Sd S k (.bin op l r) (Mine.Internal.vt fun mu m V K=>f.v aa m V (fun a Aa=>g.v aa m Aa (fun b Ab=>binW (lit r) mu op a b Ab K))) X :=
 Sd.vt rfl fun F hk mu m V K o h=>ET.bin (d.on hk o Sub.rfl h fun a Aa Ac Al Ag Ad=>by
  by_cases q:lit r=true
  ·refine X1pp (lit_pos q) fun n e hn=>?_
   rw [hg _ e] at Ad;clear d' hg h q;subst e;exact ET.int (BT.less Ag (LD Al (fun Z y e=>by cases e;exact ⟨by exact fun z0=>lin [n] [] .no [.h (.c (.A V0 K1)) K0] rfl z0,by omega⟩) Ad))
  ·exact d'.on hk Al Ag Ad fun b Ab Aj AF At Ah=>BT.less At (LD AF (fun z=>absurd z q) Ah))
theorem sub_ok{l r:E}{f g:WT}(d:Sd S k l f X)(d':Sd S k r g X)(hg:∀n:Int,r=.int n->g=Mine.Internal.vt fun Z Z V K=>K (.int n) V):Sd S k (.sub l r) (Mine.Internal.vt fun Z m V K=>f.v aa m V (fun a Aa=>g.v aa m Aa (fun b Ab=>subW (lit0 r) a b Ab K))) X :=
 Sd.vt rfl fun F hk mu m V K o h=>ET.sub (d.on hk o Sub.rfl h fun a Aa Ac Al Ag Ad=>by
  by_cases q:lit0 r=true
  ·refine X1pp (lit0_pos q) fun n e hn=>?_
   rw [hg _ e] at Ad;clear d' hg h q;subst e;exact ET.int (IT.less Ag (Jt (fun Z=>⟨n,rfl,hn⟩) Al Ad))
  ·exact d'.on hk Al Ag Ad fun b Ab Aj AF At Ah=>IT.less At (Jt (fun z=>absurd z q) AF Ah))
theorem neg_ok{x:E}{f:WT}(d:Sd S k x f X):Sd S k (.neg x) (Mine.Internal.vt fun Z m V K=>f.v aa m V (fun a Aa=>match a with
  | .int i=>K (.int (-i)) Aa
  | _=>False)) X :=
 Sd.vt rfl fun F hk mu m V K o h=>ET.neg (d.on hk o Sub.rfl h fun a Aa Ac Al Ag Ad=>by
  cases a with
  | int i=>exact ⟨i,rfl,Aa,Ag,Al,Ad⟩
  | _=>exact Ad.elim)
theorem not_ok{x:E}{f:WT}(d:Sd S k x f X):Sd S k (.not x) ⟨fun Z m V K=>f.v aa m V (fun a Aa=>boolW a fun b=>K (.bool (!b)) Aa),fun m V K=>f.t m V (fun b Aa=>K (!b) Aa)⟩ X :=
 ⟨fun F hk mu m V K o h=>ET.not (d.on hk o Sub.rfl h fun a Aa Ac Al Ag Ad=>by
  refine X1lp a (boolW.out Ad) fun b Ad=>?_;exact ⟨b,rfl,Aa,Ag,Al,Ad⟩),fun F hk m V K o h=>TT.not (d.onT hk o Sub.rfl h fun a Aa Ac Al Ag Ad=>⟨Aa,Ag,Al,Ad⟩)⟩
theorem KT.mono{F:Fx S}{m:Vars}{V:Store}{X:Value->ae->Prop}{op:CmpOp}{a b:AV}{Q Q':Bool->Store->Prop}(h:KT F m V op a b Q X)(k:∀b V,Q b V->Q' b V):KT F m V op a b Q' X :=
 fun va vb s hs ra rb=>(h va vb s hs ra rb).mono fun _ _ _ _ _ ⟨c,e,q⟩=>⟨c,e,k _ _ q⟩
theorem cmp_ok{op:CmpOp}{l r:E}{f g:WT}(d:Sd S k l f X)(d':Sd S k r g X):Sd S k (.cmp op l r) ⟨fun Z m V K=>f.v aa m V (fun a Aa=>g.v aa m Aa (fun b Ab=>cmpW op a b Ab fun t=>K (.bool t) Ab)),
   fun m V K=>f.v aa m V (fun a Aa=>g.v aa m Aa (fun b Ab=>cmpW op a b Ab fun t=>K t Ab))⟩ X :=
 ⟨fun F hk mu m V K o h=>ET.cmp (d.on hk o Sub.rfl h fun a Aa Ac Al Ag Ad=>d'.on hk Al Ag Ad fun b Ab Aj AF At Ah=>KT.mono (KT.less At (Fm (K:=fun t V=>K (.bool t) V) AF Ah)) fun t BB z=>by obtain ⟨Ap,BQ,C4,z⟩:=z;exact ⟨Ap,BQ,C4,z⟩),
 fun F hk m V K o h=>TT.cmp (d.on hk o Sub.rfl h fun a Aa Ac Al Ag Ad=>d'.on hk Al Ag Ad fun b Ab Aj AF At Ah=>KT.less At (Fm AF Ah))⟩
theorem cmp2_ok{o1 o2:CmpOp}{a b c:E}{f g h:WT}(d:Sd S k a f X)(d':Sd S k b g X)(d2:Sd S k c h X):Sd S k (.cmp2 o1 o2 a b c) ⟨fun Z Z Z Z=>False,fun m V K=>f.v aa m V (fun x Aa=>g.v aa m Aa (fun y Ab=>cmpW o1 x y Ab fun t=>ifW t (h.v aa m Ab (fun z Ap=>cmpW o2 y z Ap fun t=>K t Ap)) (K false Ab)))⟩ X :=
 ⟨fun Z Z Z Z Z Z Z h=>h.elim,fun F hk m V K o q=>TT.cmp2 (d.on hk o Sub.rfl q fun x Aa Ac Al Ag Ad=>d'.on hk Al Ag Ad fun y Ab Aj AF At Ah =>
  KT.mono (KT.less At (Fm (K:=fun t Ab=>ifW t (h.v aa m Ab (fun z Ap=>cmpW o2 y z Ap fun t=>K t Ap)) (K false Ab)) AF Ah)) fun t BB z=>by
    obtain ⟨Ap,BQ,C4,z⟩:=z
    cases t with
    | true=>exact d2.on hk C4 BQ z fun z Cd Bw J0 FL Bx=>KT.less FL (Fm J0 Bx)
    | false=>exact ⟨Ap,BQ,C4,z⟩)⟩
theorem ite_ok{c a b:E}{f g h:WT}(d:Sd S k c f X)(d':Sd S k a g X)(d2:Sd S k b h X):Sd S k (.ite c a b) ⟨fun mu m V K=>f.t m V (fun t Aa=>ifW t (g.v mu m Aa K) (h.v mu m Aa K)),fun Z Z Z=>False⟩ X :=
 ⟨fun F hk mu m V K o q=>ET.ite (d.onT hk o Sub.rfl q fun t Aa Ac Al Ag Ad=>by
  cases t with
  | true=>exact d'.on hk Al Ag Ad fun a Ab Aj AF At Ah=>⟨Ab,At,AF,Ah⟩
  | false=>exact d2.on hk Al Ag Ad fun a Ab Aj AF At Ah=>⟨Ab,At,AF,Ah⟩),fun Z Z Z Z Z Z h=>h.elim⟩
theorem fget_t{t o:AV}:KW (Ft t o) "texts"=some t:=by
 have e:(("texts":Str) == "texts")=true:=by decide +kernel
 simp only [KW,Ft,dC,e,cR]
theorem fget_o{t o:AV}:KW (Ft t o) "own"=some o:=by
 have e:(("texts":Str) == "own")=false:=by decide +kernel
 have e':(("own":Str) == "own")=true:=by decide +kernel
 simp only [KW,Ft,dC,e,e',cR]
set_option tactic.hygienic true in
theorem attr_ok{i n:Nat}(T:TabOk S W k Φ):Sd S k (.attr (.v i) n) (Mine.Internal.vt fun Z m V K=>match m.getD i aa with
  | some a=>attrW n a V K
  | aa=>False) X :=
 Sd.vt rfl fun F hk mu m V K o h=>by
  split at h
  ·rename_i a ha
   refine X2pp (instW.out o Sub.rfl h) fun t ow h1 h=>?_
   split at h
   ·exact ET.attr T.good.floor T.good.texts (KP (.inl rfl)) ha h1 fget_t h.1 (.now o h.2)
   ·exact ET.attr T.good.floor T.good.cells (KP (.inr rfl)) ha h1 fget_o h.1 (.now o h.2)
   ·exact h.elim
  ·exact h.elim
theorem hasF_ok{i:Nat}(T:TabOk S W k Φ)(h:hasF Φ i=true):W.U i=true/\i≠28:=by
 rcases dg.mp h with q | q
 ·have q:=ef.mp q;exact ⟨T.good.bu i q,by exact fun z0=>lin [i] [] .no [.c V0 K17,.D (-1) V0 K28] rfl q z0⟩
 ·refine X1p (cf.mp q) fun f hf=>?_;exact (T.fn i f hf).1
set_option tactic.hygienic true in
theorem call_ok{i:Nat}{e:E}{es:List E}{fs:List WT}(T:TabOk S W k Φ)(d:SdL S k X (e::es) fs):Sd S k (.call (.g i) (e::es)) (Mine.Internal.vt fun mu m V K=>(match hasF Φ i with
  | true=>Gn fs m V (fun u Aa=>callW Φ X mu i u Aa K)
  | false=>False)) X :=
 Sd.vt rfl fun F hk mu m V K o h=>by
  split at h
  ·rename_i q
   refine Ao (hasF_ok T q) fun h1 h2=>?_;exact ET.callg (T.good.glob i h1) (Lw T.good h1 h2) (JG hk d o Sub.rfl h fun a Aa Ac Al Ag Ad=>CT.less Ag (callW_ok T hk Al Ad).2)
  ·exact h.elim
theorem Kt{lo hi st:E}(h:HD lo hi st=true):lo=.none/\hi=.none/\st=.neg (.int 1):=by
 unfold HD at h
 cases lo with
 | none =>
  cases hi with
  | none =>
   cases st with
   | neg x =>
    dsimp only at h
    cases q:x.nat? with
    | none=>rw [q] at h;cases h
    | some n =>
     rw [q] at h;have e:n=1:=bU h;clear h;subst e;refine ⟨rfl,rfl,?_⟩
     cases x with
     | int i =>
      cases i with
      | ofNat m=>cases q;rfl
      | negSucc m=>cases q
     | _=>exact (Ak rfl q).elim
   | _=>exact (aH h).elim
  | _=>exact (aH h).elim
 | _=>exact (aH h).elim
theorem back_ok{e lo hi st:E}{f:WT}(d:Sd S k e f X):Sd S k (.slice e lo hi st) (Mine.Internal.vt fun Z m V K=>quiet (HD lo hi st) (f.v aa m V (fun a Aa=>backW a Aa K))) X :=
 Sd.vt rfl fun F hk mu m V K o h=>by
  refine Ao (quiet.out h) fun q h=>?_;refine X0lll lo hi st (Kt q) ?_;refine ET.back (d.on hk o Sub.rfl h fun a Aa Ac Al Ag Ad=>?_)
  cases a with
  | tup l =>
   unfold backW at Ad;dsimp only at Ad
   cases q2:two? l with
   | none=>rw [q2] at Ad;exact Ad.elim
   | some p=>rw [q2] at Ad;rw [two?_out q2];exact ⟨_,_,rfl,Aa,Ag,Al,Ad⟩
  | _=>exact Ad.elim
theorem dd_more{V:LS}{s:Store}{a:AV}{l:List (Af×AV)}(h:dd (Av V) a=some l)(hs:Sub V s):dd s a=some l:=by
 cases a with
 | dict l'=>exact h
 | loc x i =>
  refine X1pp (AG (show (Av V x).bind _=some l from h)) fun o h1 h2=>?_
  show (s x).bind _=some l;rw [hs _ _ h1];exact h2
 | _=>exact (Ak rfl h).elim
theorem Gp{s:Store}{a:AV}{l:List (Af×AV)}(h:dd s a=some l):tyA s a=some .dict:=by
 cases a with
 | dict l'=>rfl
 | loc x i =>
  refine X1pp (AG (show (s x).bind _=some l from h)) fun o h1 h2=>?_
  unfold tyA;dsimp only;rw [h1]
  cases o with
  | dict l'=>rfl
  | _=>exact (Ak rfl h2).elim
 | _=>exact (Ak rfl h).elim
theorem slotD.out{V:LS}{a:AV}{P:Addr->Nat->List (Af×AV)->Prop}(h:slotD V a P):∃x i l,a=.loc x i/\slot V i=.at x (.dict l)/\P x i l:=by
 cases a with
 | loc x i =>
  unfold slotD at h;dsimp only at h
  cases q:slot V i with
  | no=>rw [q] at h;exact h.elim
  | «at» b o =>
   rw [q] at h
   cases o with
   | dict l=>obtain ⟨rfl,h⟩:=h;exact ⟨_,_,_,rfl,q,h⟩
   | _=>exact h.elim
 | _=>exact h.elim
structure MC(S:Sta)(k:Nat)(X:XL)(es:List E)(fs:List WT)(F:Fx S):Prop where
 d:SdL S k X es fs
 hk:k<=F.k
inductive MOk(S:Sta)(k n:Nat):Prop
 | mk (nm:Str)(h:ixS AT nm=some n)(r:∀{X:XL}{es:List E}{fs:List WT}{F:Fx S},MC S k X es fs F->∀{m:M}{V:LS}{s:Store}{a:AV}{K:KV},okS V->Sub V s->bmW n fs m a V K->∃t id,Jj nm (Ty.name t) id/\tyA s a=some t/\ArgsT F (vr m) s es (fun avs Ab=>CT F (vr m) Ab (.builtin id) (a::avs) (Up K) (XF F (vr m) (Up X))) (XF F (vr m) (Up X))):MOk S k n
theorem Jp{V:LS}{s:Store}{x:Addr}{i:Nat}{l:List AV}(o:okS V)(hs:Sub V s)(z:slot V i=.at x (.list l)):tyA s (.loc x i)=some .list:=by
 unfold tyA;dsimp only;rw [hs.at o z]
theorem MOk.lst{n:Nat}{nm:Str}{id:String}(h1:ixS AT nm=some n)(h2:Jj nm (Ty.name .list) id)(h0:∀{fs:List WT}{m:M}{a:AV}{V:LS}{K:KV},bmW n fs m a V K->slotL V a fun Z Z Z=>Gn fs m V (fun u Ab=>methW n a u Ab K))
  (h4:∀{F:Fx S}{m:Vars}{X:Value->ae->Prop}{a:AV}{u:List AV}{V:LS}{K:KV},okS V->methW n a u V K->CT F m (Av V) (.builtin id) (a::u) (Up K) X):MOk S k n :=
 ⟨nm,h1,fun c m V s a K o hs h=>by
  refine X3ppp (slotL.out (h0 h)) fun x i l Z0 z h=>?_;subst Z0;exact ⟨.list,id,h2,Jp o hs z,Cw c.hk c.d o hs h fun u Ab Aj AF At Ah=>CT.less At (h4 AF Ah)⟩⟩
theorem m0_ok:MOk S k 0:=.lst Kq GL (fun h=>h) fun o h=>by
 refine X1pp (Cf h) fun x Z0 h=>?_;subst Z0;refine X3pppp (slotL.out h) fun ad i l Z1 z h5 h6=>?_;clear h;subst Z1;exact CT.append (Au o z) h5 (.upd o z h6)
theorem m1_ok:MOk S k 1:=.lst ix_pop meth_pop (fun h=>h) fun o h=>by
 refine Ao (nil_of h) fun Z0 h=>?_;subst Z0;refine X3pppp (slotL.out h) fun ad i l Z1 z h5 Z2=>?_;refine X1pp Z2 fun x h6 h7=>?_;clear h;subst Z1;exact CT.pop (Au o z) h6 h5 (.upd o z h7)
theorem m2_ok:MOk S k 2:=.lst Ko GI (fun h=>h) fun o h=>by
 refine X2pp (He h) fun i x Z0 h=>?_;subst Z0;obtain ⟨ad,j,l,rfl,z,h⟩:=slotL.out h
 cases i with
 | int y=>exact CT.insert (Au o z) h.2.1 h.1.1 h.1.2 (.upd o z h.2.2)
 | _=>exact h.elim
theorem m3_ok:MOk S k 3:=⟨_,ix_clear,fun c m V s a K o hs h=>by
 obtain ⟨d,_⟩:=c
 cases d with
 | nil =>
  cases slotC.out h with
  | l x i l z q=>exact ⟨.list,_,IV,Jp o hs z,CT.less hs (CT.clear (Au o z) q.1 (.upd o z q.2))⟩
  | d x i l z q=>exact ⟨.dict,_,GK,Gp (BV (hs.at o z)),CT.less hs (CT.clearD (Au o z) q.1 (.upd o z q.2))⟩
 | cons _ _=>exact h.elim⟩
theorem m4_ok:MOk S k 4:=.lst Kp GJ (fun h=>h) fun o h=>by
 refine X1pp (Cf h) fun b Z0 h=>?_;subst Z0;obtain ⟨ad,j,l,rfl,z,h⟩:=slotL.out h;obtain ⟨k,h5,h6,h7⟩:=dlW.out o h;exact CT.extend (Au o z) h5 h6 (.upd o z h7)
theorem m6_ok:MOk S k 6:=⟨_,ix_get,fun c m V s a K o hs h=>by
 refine X1pp (ddW.out o h) fun l h5 h=>?_;refine ⟨.dict,_,meth_get,Gp (dd_more h5 hs),Cw c.hk c.d o hs h fun u Ab Aj AF At Ah=>CT.less At ?_⟩;refine X1lp u (Cf Ah) fun b Ah=>?_;refine X1pp (ddW.out AF Ah) fun l h6 Ah=>?_;refine X1lp b (spotW.out Ah) fun kk Ah=>?_;exact CT.get h6 (.now AF Ah)⟩
theorem SdL.two{X:XL}{es:List E}{f g:WT}(d:SdL S k X es [f,g]):∃a b,es=[a,b]/\Sd S k a f X/\Sd S k b g X:=by
 cases d with
 | cons d t =>
  cases t with
  | cons d' t=>cases t;exact ⟨_,_,rfl,d,d'⟩
theorem m7_ok:MOk S k 7:=⟨_,Kn,fun c m V s a K o hs h=>by
 have h:sdW _ m a V K:=h;unfold sdW at h
 cases q:two? _ with
 | none=>rw [q] at h;exact h.elim
 | some g =>
  rw [q] at h;refine X3ppp (slotD.out h) fun x i l Z0 z h=>?_;subst Z0;have d:=c.d;rw [two?_out q] at d;refine X2ppp d.two fun e1 e2 Z1 d1 d2=>?_;clear d;subst Z1;refine ⟨.dict,_,GH,Gp (BV (hs.at o z)),EsT.cons (d1.on c.hk o hs h fun k Ab Aj AF At Ah=>?_)⟩;obtain ⟨kk,rfl,mu,Ah⟩:=spotW.out Ah;refine EsT.cons (d2.on c.hk AF At Ah fun x Ap BB C4 BQ AI=>EsT.nil (CT.less BQ ?_));refine X3pppp (slotD.out AI) fun Z Z l e z hz AI=>?_
  cases e
  exact CT.setdef (Au C4 z) hz (fun v g=>.now C4 (by rw [g] at AI;exact AI)) fun g=>.upd C4 z (by rw [g] at AI;exact AI)⟩
theorem m8_ok:MOk S k 8:=⟨_,ix_join,fun c m V s a K o hs h=>by
 cases a with
 | str x =>
  refine ⟨.str,_,Kd,rfl,Cw c.hk c.d o hs h fun u Ab Aj AF At Ah=>CT.less At ?_⟩;refine X1lp u (Cf Ah) fun b Ah=>?_;refine X1pp (dlW.out AF Ah) fun l h5 Z1=>?_;refine X1ppp Z1 fun ys Z0 h6 h7=>?_;clear Z1;subst Z0;exact CT.join h5 h6 (.now AF h7)
 | _=>exact h.elim⟩
theorem isMe_ok{n:Nat}(h:isMe n=true):MOk S k n:=by
 match n,h with
 | 0,_=>exact m0_ok
 | 1,_=>exact m1_ok
 | 2,_=>exact m2_ok
 | 3,_=>exact m3_ok
 | 4,_=>exact m4_ok
 | 6,_=>exact m6_ok
 | 7,_=>exact m7_ok
 | 8,_=>exact m8_ok
theorem flds_in{t o:AV}{p:Str×AV}(h:p∈Ft t o):p.1 = "texts"\/p.1 = "own":=by
 cases h with
 | head=>exact .inl rfl
 | tail _ h=>cases h with
  | head=>exact .inr rfl
  | tail _ h=>cases h
theorem meth_ok{e:E}{n:Nat}{es:List E}{f:WT}{fs:List WT}(T:TabOk S W k Φ)(d:Sd S k e f X)(d':SdL S k X es fs):Sd S k (.meth e n es) (Mine.Internal.vt fun mu m V K=>ifW (isMe n) (f.v aa m V (fun a Aa=>bmW n fs m a Aa K)) (omW (Gq Φ.me n) f fs mu X m V K)) X :=
 Sd.vt rfl fun F hk mu m V K o h=>by
  cases q:isMe n with
  | true =>
   rw [q] at h;obtain ⟨nm,h1,r⟩:=isMe_ok (S:=S) (k:=k) q;exact ET.meth h1 (d.on hk o Sub.rfl h fun a Aa Ac Al Ag Ad=>r ⟨d',hk⟩ Al Ag Ad)
  | false =>
   rw [q] at h
   cases hf:Gq Φ.me n with
   | none=>rw [hf] at h;exact h.elim
   | some f' =>
    rw [hf] at h;refine X1pp (T.me n f' hf) fun fa U z=>?_;refine X1pppppp (T.good.meth n fa U) fun nm hn n1 n2 y ht Y=>?_;refine ET.method T.good.floor hn y ht Y (d.on hk o Sub.rfl h fun a Aa Ac Al Ag Ad=>?_);refine X2pp (instW.out Al Ag Ad) fun t ow h5 Ad=>?_;refine ⟨⟨_,h5,KU (fun p hp=>flds_in hp) n1 n2⟩,Cw hk d' Al Ag Ad fun u Ab Aj AF At Ah=>CT.less At ?_⟩;refine X2pp (instW.out AF At Ah) fun Z Z Z Ah=>?_;exact z F hk (vr m) mu _ Ab K X AF Ah
theorem comp_ok{u B:E}{i:Nat}{cs:List E}{f g:WT}{fs:List WT}(T:TabOk S W k Φ)(ds:Sd S k B g X)(d:Sd S k u f CA)(dt:SdL S k CA cs fs):Sd S k (.comp u i B cs) (Mine.Internal.vt fun mu m V K=>g.v aa m V (fun a Aa=>iterW Φ.q a Aa (fun items ok Ab=>items.length<=big/\D2 i (f.v aa) (Gs fs) ok m (fun ys Ap=>frW mu (.list ys) (.list ys) Ap K) items [] Ab))) X :=
 Sd.vt rfl fun F hk mu m V K o h=>ET.comp (Fj T hk ds d dt o (fun Z Z z=>z) h)
set_option tactic.hygienic true in
theorem v_ok{i:Nat}:Sd S k (.v i) (Mine.Internal.vt fun Z m V K=>match m.getD i aa with
  | some a=>K a V
  | aa=>False) X :=
 Sd.vt rfl fun F hk mu m V K o h=>by
  split at h
  ·rename_i a ha;exact ET.v ha (.now o h)
  ·exact h.elim
set_option tactic.hygienic true in
theorem g_ok{i:Nat}(T:TabOk S W k Φ):Sd S k (.g i) (Mine.Internal.vt fun Z Z V K=>gW Φ i V K) X :=
 Sd.vt rfl fun F hk mu m V K o h=>by
  unfold gW at h
  split at h
  ·rename_i q
   have q:=bU q;subst q
   split at h
   ·rename_i z
    refine X1p T.good.six fun t e=>?_;have hg:=T.good.glob 28 (T.ex 28 z);rw [e] at hg;exact ET.g_int hg (.now o h)
   ·exact h.elim
  ·split at h
   ·rename_i q
    have hu:W.U i=true:=by
     rcases dg.mp q with q | q
     ·exact T.good.bu i (ef.mp q)
     ·exact T.ex i q
    exact ET.cls (T.good.glob i hu) (.now o h)
   ·exact h.elim
set_option tactic.hygienic true in
theorem Jy{x:E}{g:WT}{i:Nat}(T:TabOk S W k Φ)(d:Sd S k x g X):Sd S k (.sorted x (.g i)) (Mine.Internal.vt fun mu m V K=>match Gq Φ.ky i with
  | some f=>g.v aa m V (fun a Aa=>dlW Aa a fun L=>sortW f mu L Aa K)
  | aa=>False) X :=
 Sd.vt rfl fun F hk mu m V K o h=>by
  split at h
  ·rename_i f hf
   refine Ao (T.ky i f hf) fun hu Z0=>?_;refine X2ppp Z0 fun fa kf e O Y=>?_;have hg:=T.good.glob i hu;rw [e] at hg;have B:=T.good.glob 10 (T.good.bu 10 (by decide))
   rw [T.good.base 10 (by decide)] at B
   refine ET.sorted (key:=Do f) hg B (aB O hk) (d.on hk o Sub.rfl h fun a Aa Ac Al Ag Ad=>?_);obtain ⟨L,hl,⟨h1,h2,h3⟩,h4⟩:=dlW.out Al Ad;refine ⟨L,?_,fun x hx=>Y x (h1 x hx) x (.head _),h2,h3,fun L' p1 p2=>?_⟩
   ·exact Li hl Ag
   ·exact frW.freshS Al Ag (h4 L' ⟨p1,p2⟩)
  ·exact h.elim
mutual
theorem AM(T:TabOk S W k Φ):∀(e:E)(X:XL),Sd S k e (wp Φ e X) X
 | .none,X=>Sd.vt rfl fun F hk mu m V K o h=>ET.none (.now o h)
 | .bool b,X=>Sd.vt rfl fun F hk mu m V K o h=>ET.bool (.now o h)
 | .int b,X=>Sd.vt rfl fun F hk mu m V K o h=>ET.int (.now o h)
 | .str b,X=>Sd.vt rfl fun F hk mu m V K o h=>ET.str (.now o h)
 | .v i,X=>v_ok
 | .g i,X=>g_ok T
 | .tup es,X=>tup_ok (By T es X)
 | .list es,X=>list_ok (By T es X)
 | .dict ks vs,X=>dict_ok (By T ks CA) (By T vs CA)
 | .bin op l r,X=>bin_ok (AM T l X) (AM T r X) fun n e=>by rw [e];rfl
 | .neg x,X=>neg_ok (AM T x X)
 | .not x,X=>not_ok (AM T x X)
 | .and es,X=>⟨fun F hk mu m V K o h=>ET.and (andV_ok hk (By T es X) o Sub.rfl h),fun F hk m V K o h=>TT.and (andT_ok hk (By T es X) o Sub.rfl h)⟩
 | .or es,X=>⟨fun F hk mu m V K o h=>ET.or (orV_ok hk (By T es X) o Sub.rfl h),fun F hk m V K o h=>TT.or (orT_ok hk (By T es X) o Sub.rfl h)⟩
 | .cmp op l r,X=>cmp_ok (AM T l X) (AM T r X)
 | .cmp2 _ _ a b c,X=>cmp2_ok (AM T a X) (AM T b X) (AM T c X)
 | .ite c a b,X=>ite_ok (AM T c X) (AM T a X) (AM T b X)
 | .sub l r,X=>sub_ok (AM T l X) (AM T r X) fun n e=>by rw [e];rfl
 | .slice o lo hi st,X=>by
  exact back_ok (AM T o X)
 | .attr o n,X=>by
  cases o<;>first | exact Sd.no | exact attr_ok T
 | .call f es,X=>by
  cases f<;>first | exact Sd.no | (cases es<;>first | exact Sd.no | exact call_ok T (.cons (AM T _ X) (By T _ X)))
 | .sorted x f,X=>by
  cases f<;>first | exact Sd.no | exact Jy T (AM T x X)
 | .meth o n es,X=>meth_ok T (AM T o X) (By T es X)
 | .comp u i B cs,X=>comp_ok T (AM T B X) (AM T u CA) (By T cs CA)
 | .mu l e,X=>⟨fun F hk mu m V K o h=>ET.mu ((AM T e X).v F hk (some l) m V K o h),fun F hk m V K o h=>TT.mu ((AM T e X).t F hk m V K o h)⟩
theorem By(T:TabOk S W k Φ):∀(es:List E)(X:XL),SdL S k X es (wpL Φ es X)
 | [],_=>.nil
 | e::es,X=>.cons (AM T e X) (By T es X)
end
end
end
section
variable {S:Sta}{W:Wd}
structure Xo(F:Fx S)(X:XL)(Y:Value->ae->Prop):Prop where
 up:∀e s,XR F (Up X) e s->Y e s
 pass:hW (model S.prog S.w) F.A F.env Y
theorem Xo.xf{F:Fx S}{X:XL}{Y:Value->ae->Prop}(x:Xo F X Y){m:Vars}(e:Value)(s:ae)(h:XF F m (Up X) e s):Y e s:=x.up e s h.up
noncomputable def SdS(S:Sta)(k:Nat)(st:Mine.Internal.S)(f:M->LS->KS->Prop)(X:XL):Prop:=∀F:Fx S,k<=F.k->∀Y,Xo F X Y->∀m V K,okS V->f m V K->ST F (vr m) (Av V) st (UpS K) Y
noncomputable def SdSs(S:Sta)(k:Nat)(ss:List Mine.Internal.S)(f:M->LS->KS->Prop)(X:XL):Prop:=∀F:Fx S,k<=F.k->∀Y,Xo F X Y->∀m V K,okS V->f m V K->SsT F (vr m) (Av V) ss (UpS K) Y
theorem Sub.set{V:LS}{s:Store}{i:Nat}{a:Addr}{o p:AObj}(k:okS V)(h:Sub V s)(q:slot V i=.at a o):okS (V.set i (.at a p))/\Sub (V.set i (.at a p)) (s.set a p):=by
 have f:Fits V i (.at a p):=fun Z Z e=>by cases e;exact .inr ⟨o,q⟩
 refine ⟨DB k f,fun b r e=>?_⟩
 have:=EX k f b r e
 by_cases z:b=a
 ·clear q f e;subst z;rw [Store.set_self] at this ⊢;exact this
 ·rw [Store.set_ne _ _ z] at this ⊢;exact h _ _ this
inductive PatK(s:Store)(K:M->Prop)(m':Vars)(s':Store):Prop
 | mk (m:M)(em:m'=vr m)(es:s'=s)(h:K m):PatK s K m' s'
set_option tactic.hygienic true in
mutual
theorem GB{F:Fx S}{q:Bool}{Y:Value->ae->Prop}{s:Store}(hq:q=true->S.hx=aa):∀{p:Pat}{a:AV}{m:M}{K:M->Prop},patW q p a m K->PT F (vr m) s p a (PatK s K) Y
 | .v i,a,m,K,h=>PT.v ⟨_,(Fu m i a).symm,rfl,h⟩
 | .tup ps,a,m,K,h=>by
  refine Ao (quiet.out h) fun e h=>?_
  cases a with
  | tup l =>
   dsimp only at h
   split at h
   ·rename_i z;exact PT.tup (hq e) (bU z) (Hp hq h)
   ·exact h.elim
  | _=>exact h.elim
theorem Hp{F:Fx S}{q:Bool}{Y:Value->ae->Prop}{s:Store}(hq:q=true->S.hx=aa):∀{ps:List Pat}{l:List AV}{m:M}{K:M->Prop},patsW q ps l m K->PTs F Y (PatK s K) ps l (vr m) s
 | [],[],m,K,h=>⟨m,rfl,rfl,h⟩
 | p::ps,a::as,m,K,h=>fun pe hc v u hs r=>aV (GB hq h pe hc v u hs r) (fun _ u' ⟨m',s',st,h',⟨mm,em,es,q⟩⟩=>by
   subst em;clear hs r;subst es;exact ⟨_,_,st,h',Hp hq q⟩) fun Z Z e=>e
 | [],_::_,_,_,h=>h.elim
 | _::_,[],_,_,h=>h.elim
end
theorem SsT.less{F:Fx S}{m:Vars}{V:LS}{s:Store}{ss:List Mine.Internal.S}{K:Fl->Vars->Store->Prop}{Y:Value->ae->Prop}(hs:Sub V s)(h:SsT F m (Av V) ss K Y):SsT F m s ss K Y:=h.weak (fun Z Z e=>e) hs
theorem DQ{k:Nat}{F:Fx S}{q:Bool}{p:Pat}{body:List Mine.Internal.S}{f:M->LS->KS->Prop}{X:XL}{Y:Value->ae->Prop}{ok:Option Nat}{T:Store->Store->Prop}{I:LS->Prop}{K:KS}(hq:q=true->S.hx=aa)(d:SdSs S k body f X)(hk:k<=F.k)(hY:Xo F X Y)(tn:Turn ok T I) :
  ∀{items:List AV}{m:M}{V:LS}{s:Store},okS V->Sub V s->I V->I2 q p f ok K items m V->LV F p body T (UpS K) Y items (vr m) s
 | [],m,V,s,o,hs,_,h=>⟨m,V,rfl,hs,o,h⟩
 | x::r,m,V,s,o,hs,hi,h=>by
  intro pe hc v u hu rx;refine aV (GB (Y:=Y) hq h pe hc v u hu rx) ?_ fun Z Z e=>e;intro _ u' U;obtain ⟨m',s',st,h',⟨mm,em,es,Ad⟩⟩:=U;subst em;clear hu rx;subst es;refine ⟨_,_,st,h',SsT.mono (SsT.less hs (d F hk Y hY mm V _ o Ad)) fun fl As Aj z=>?_⟩;obtain ⟨m2,Ab,O,At,AF,z⟩:=z;subst O
  cases fl with
  | next =>
   obtain ⟨⟨h3,h4⟩,h5⟩:=tn.go o AF hs At hi z;exact ⟨h3,DQ hq d hk hY tn AF At h4 h5⟩
  | ret v=>exact ⟨m2,Ab,rfl,At,AF,z⟩
section
variable {k:Nat}{X:XL}{Φ:Tab}
theorem for_ok{p:Pat}{e:E}{body:List Mine.Internal.S}{f:WT}{g:M->LS->KS->Prop}(T:TabOk S W k Φ)(d:Sd S k e f X)(d':SdSs S k body g X)(F:Fx S)(hk:k<=F.k)(Y:Value->ae->Prop)(hY:Xo F X Y)(m:M)(V:LS)(K:KS)(o:okS V)
  (h:f.v aa m V (fun a Aa=>iterW Φ.q a Aa (fun items ok Ab=>I2 Φ.q p g ok K items m Ab))):ST F (vr m) (Av V) (.for_ p e body) (UpS K) Y :=
 ST.for_ hY.pass (SrcT.val ((d.on hk o Sub.rfl h fun a Aa Ac Al Ag Ad=>by
  obtain ⟨items,u,ok,I,it,tn,hi,Ah⟩:=HB (F:=F) T.q Al Ag Ad;exact ⟨items,u,it,DQ T.q d' hk hY tn Al Ag hi Ah⟩).monoX hY.xf))
theorem enum_ok{ps:List Pat}{e:E}{body:List Mine.Internal.S}{f:WT}{g:M->LS->KS->Prop}(T:TabOk S W k Φ)(d:Sd S k e f X)(d':SdSs S k body g X)(F:Fx S)(hk:k<=F.k)(Y:Value->ae->Prop)(hY:Xo F X Y)(m:M)(V:LS)(K:KS)(o:okS V)
  (h:f.v aa m V (fun a Aa=>enumW Φ.q a Aa (fun items ok Ab=>I2 Φ.q (.tup ps) g ok K items m Ab))):ST F (vr m) (Av V) (.for_ (.tup ps) (.call (.g 9) [e]) body) (UpS K) Y:=by
 have hg:Glob S 9 (.type "enumerate"):=by have:=T.good.glob 9 (T.good.bu 9 (by decide));rw [T.good.base 9 (by decide)] at this;exact this
 refine ST.for_ hY.pass (SrcT.enum1 hg (EsT.cons ((d.on hk o Sub.rfl h fun a Aa Ac Al Ag Ad=>EsT.nil ⟨a,rfl,?_⟩).monoX hY.xf)))
 cases a with
 | str x=>refine Bp (quiet.out Ad) fun e h2 Ad=>?_;exact ⟨T.q e,.inr ⟨x,rfl,h2,DQ T.q d' hk hY (.free fun Z Z=>trivial) Al Ag trivial Ad⟩⟩
 | list l=>refine Ao (quiet.out Ad) fun e Ad=>?_;exact ⟨T.q e,.inl ⟨l,rfl,DQ T.q d' hk hY (.free fun Z Z=>trivial) Al Ag trivial Ad⟩⟩
 | loc x i =>
  unfold enumW at Ad;dsimp only at Ad
  cases z:slot Aa i with
  | no=>rw [z] at Ad;exact Ad.elim
  | «at» b p =>
   rw [z] at Ad
   cases p with
   | list l =>
    obtain ⟨rfl,Ad⟩:=Ad;obtain ⟨e,Ad⟩:=quiet.out Ad;exact ⟨T.q e,.inl ⟨l,BE (Ag.at Al z),DQ T.q d' hk hY .loc Al Ag z Ad⟩⟩
   | _=>exact Ad.elim
 | _=>exact Ad.elim
inductive WInv(I:Nat->M->LS->Prop)(n:Nat)(m':Vars)(s:Store):Prop
 | mk (m:M)(V:LS)(em:m'=vr m)(e:Sub V s)(k:okS V)(h:I n m V):WInv I n m' s
set_option tactic.hygienic true in
theorem while_ok{c:E}{body:List Mine.Internal.S}{f:WT}{g:M->LS->KS->Prop}(d:Sd S k c f X)(d':SdSs S k body g X):SdS S k (.while_ c body) (fun m V K=>∃I:Nat->M->LS->Prop,(∃n,I n m V)/\∀n m V,I n m V->f.t m V (fun t Aa=>ifW t (g m Aa (kWh n I K)) (K .next m Aa))) X:=by
 intro F hk Y hY m V K o u;obtain ⟨I,⟨n,h0⟩,h⟩:=u;refine ST.while_ hY.pass (WInv I) ?_ n ⟨m,V,rfl,Sub.rfl,o,h0⟩;intro n m' s u;obtain ⟨m,V,rfl,hs,o,hI⟩:=u;refine (d.onT hk o hs (h n m V hI) fun t Aa Ac Al Ag Ad=>?_).monoX hY.xf
 cases t with
 | true =>
  rw [if_pos rfl];refine SsT.mono (SsT.less Ag (d' F hk Y hY m Aa _ Al Ad)) fun fl As Aj z=>?_;obtain ⟨m2,Ab,O,At,AF,z⟩:=z;subst O
  cases fl with
  | next=>refine X1pp z fun n' hn y=>?_;exact ⟨n',hn,m2,Ab,rfl,At,AF,y⟩
  | ret v=>exact ⟨m2,Ab,rfl,At,AF,z⟩
 | false=>rw [if_neg (by decide)];exact ⟨m,Aa,rfl,Ag,Al,Ad⟩
theorem ST.mu{F:Fx S}{m:Vars}{V:Store}{p:Pat}{e:E}{l:Nat}{K:Fl->Vars->Store->Prop}{Y:Value->ae->Prop}(h:ST F m V (.assign p e) K Y):ST F m V (.assign p (.mu l e)) K Y:=fun ps hc s hs=>by
 refine X3lpp ps hc.inv fun t pe pp hp he=>?_;exact h _ (.assign hp he) s hs
inductive AsgT:List Pat->E->Prop
 | un {ps:List Pat}{e:E}:(FG e=true\/4<=ps.length)->AJ e=true->AsgT ps e
 | two {i j:Nat}{a b:E}:i≠j->(DK 8 a || DK 8 b)=true->AsgT [.v i,.v j] (.tup [a,b])
theorem vOf_ok{p:Pat}{i:Nat}(h:vOf p=some i):p=.v i:=by
 cases p with
 | v j=>cases h;rfl
 | tup l=>cases h
theorem tupOf_ok{e:E}{es:List E}(h:tupOf e=some es):e=.tup es:=by
 cases e with
 | tup l=>cases h;rfl
 | _=>exact (Ak rfl h).elim
theorem asg3_ok{p q:Pat}{a b:E}(h:asg3 p q a b=true):AsgT [p,q] (.tup [a,b]):=by
 unfold asg3 at h
 cases h1:vOf p with
 | none=>rw [h1] at h;cases h
 | some i =>
  rw [h1] at h;dsimp only at h
  cases h2:vOf q with
  | none=>rw [h2] at h;cases h
  | some j =>
   rw [h2] at h;refine Ao (aU.mp h) fun q1 q2=>?_;rw [vOf_ok h1,vOf_ok h2];refine .two (fun e=>?_) q2;clear h h2;subst e;rw [Nat.beq_refl] at q1;cases q1
theorem asg2_ok{ps:List Pat}{es:List E}(h:asg2 ps es=true):AsgT ps (.tup es):=by
 unfold asg2 at h
 cases h1:two? ps with
 | none=>rw [h1] at h;cases h
 | some pq =>
  rw [h1] at h;dsimp only at h
  cases h2:two? es with
  | none=>rw [h2] at h;cases h
  | some ab =>
   rw [h2] at h;rw [two?_out h1,two?_out h2];exact asg3_ok h
theorem asgT_ok{ps:List Pat}{e:E}(h:asgT ps e=true):AsgT ps e:=by
 unfold asgT at h
 cases h1:tupOf e with
 | none=>rw [h1] at h;refine Ao (aU.mp h) fun q1 q2=>?_;exact .un (.inl q1) q2
 | some es =>
  rw [h1] at h
  rcases dg.mp h with h | h
  ·rw [tupOf_ok h1];exact asg2_ok h
  ·refine Ao (aU.mp h) fun q1 q2=>?_;exact .un (.inr (cq q1)) q2
theorem Jn{K:KS}{m:M}{j:Nat}(a:AV)(s:Store)(z:Up (fun a Aa=>K .next (FA m j a) Aa) a s):UpS K .next (Vars.set (vr m) j a) s:=by
 obtain ⟨Aa,Ag,Al,z⟩:=z;exact ⟨_,Aa,(Fu m j a).symm,Ag,Al,z⟩
set_option tactic.hygienic true in
theorem pat_up{F:Fx S}{Y:Value->ae->Prop}{q:Bool}{K:KS}{m:M}{p:Pat}(hq:q=true->S.hx=aa)(a:AV)(Aa:LS)(Ac:Store)(Al:okS Aa)(Ag:Sub Aa Ac)(Ad:patW q p a m (fun Am=>K .next Am Aa)):PT F (vr m) Ac p a (fun As Ab=>UpS K .next As Ab) Y:=fun pe hc v u hs r =>
 aV (GB (Y:=Y) hq Ad pe hc v u hs r) (fun _ u' ⟨m',s',st,h',⟨mm,em,es,z⟩⟩=>by
  subst em;clear hs r;subst es;exact ⟨_,_,st,h',mm,Aa,rfl,Ag,Al,z⟩) fun Z Z e=>e
inductive Cmp:E->Prop
 | c (elt:E)(i:Nat)(src:E)(cs:List E):Cmp (.comp elt i src cs)
 | m (l:Nat)(elt:E)(i:Nat)(src:E)(cs:List E):Cmp (.mu l (.comp elt i src cs))
theorem GE{e:E}(h:Dt e=false)(hm:notMu e=true):∃elt i src cs,e=.comp elt i src cs:=by
 cases e with
 | comp a b c d=>exact ⟨_,_,_,_,rfl⟩
 | mu l e=>cases hm
 | _=>cases h
theorem cmp_of{e:E}(h:AJ e=false)(hm:notMu2 e=true):Cmp e:=by
 unfold AJ at h
 cases e with
 | mu l e' =>
  refine X4l e' (GE (e:=e') h hm) fun u i B cs=>?_;exact .m _ _ _ _ _
 | comp u i B cs=>exact .c _ _ _ _
 | _=>cases h
set_option tactic.hygienic true in
theorem LF{p:Pat}{e:E}(T:TabOk S W k Φ):SdS S k (.assign p e) (fun m V K=>quiet (asgOk Φ.q p e) ((wp Φ e X).v aa m V (fun a Aa=>patW Φ.q p a m (fun Am=>K .next Am Aa)))) X:=by
 intro F hk Y hY m V K o h;refine Ao h.out fun q h=>?_
 cases p with
 | v j =>
  cases hc:AJ e with
  | true=>exact ST.assign hc (((AM T e X).v F hk _ m V _ o h).mono Jn |>.monoX hY.xf)
  | false =>
   cases cmp_of hc q with
   | c u i B cs=>exact ST.assignComp ((Fj (mu:=aa) T hk (AM T B X) (AM T u CA) (By T cs CA) o Jn h).monoX hY.xf)
   | m l u i B cs=>exact ST.mu (ST.assignComp ((Fj (mu:=some l) T hk (AM T B X) (AM T u CA) (By T cs CA) o Jn h).monoX hY.xf))
 | tup ps =>
  refine Ao (aU.mp q) fun qq q=>?_
  cases asgT_ok q with
  | un n1 n2=>exact ST.unpack n1 n2 (((AM T e X).on hk o Sub.rfl h (pat_up T.q)).monoX hY.xf)
  | @two i j a b U q2 =>
   have h:(wp Φ a X).v aa m V (fun x Aa=>(wp Φ b X).v aa m Aa (fun y Ab=>patW Φ.q (.tup [.v i,.v j]) (.tup [x,y]) m fun Am=>K .next Am Ab)):=h;refine ST.assign2 (T.q qq) U q2 (((AM T a X).on hk o Sub.rfl h fun x Aa Ac Al Ag Ad=>((AM T b X).on hk Al Ag Ad fun y Ab Aj AF At Ah=>?_).monoX hY.xf).monoX hY.xf);refine Ao (quiet.out Ah) fun Z Ah=>?_;exact ⟨_,Ab,by rw [Fu,Fu],At,AF,Ah⟩
theorem slotI.out{V:LS}{a:AV}{P:Addr->Nat->Addr->List (Str×AV)->Prop}(h:slotI V a P):∃x i d fs,a=.loc x i/\slot V i=.at x (.inst d)/\slot V (i+1)=.at d (.attrs fs)/\P x i d fs:=by
 cases a with
 | loc x i =>
  have h:(match fields? V i with
   | some f=>(f.1.1=x/\f.2.1=f.1.2)/\P f.1.1 i f.2.1 f.2.2
   | aa=>False):=h
  cases q:fields? V i with
  | none=>rw [q] at h;exact h.elim
  | some f =>
   rw [q] at h;obtain ⟨⟨rfl,e⟩,hP⟩:=h;refine Ao (fields?_out q) fun q1 q2=>?_;exact ⟨_,_,_,_,rfl,e▸q1,q2,hP⟩
 | _=>exact h.elim
set_option tactic.hygienic true in
theorem IE{e ob:E}{n:Nat}{f g:WT}(T:TabOk S W k Φ)(d:Sd S k e f X)(d':Sd S k ob g X):SdS S k (.setattr ob n e) (fun m V K=>quiet (AJ e && (cw n 11 || cw n 12)) (f.v aa m V (fun x Aa=>g.v aa m Aa (fun a Ab=>slotI Ab a fun Z i d fs=>fs.length<=100/\K .next m (Ab.set (i+1) (.at d (.attrs (Jh fs (fld n) x)))))))) X:=by
 intro F hk Y hY m V K o h;refine Ao h.out fun hc h=>?_;have hc:AJ e=true/\(n=11\/n=12):=by
  refine Ao (aU.mp hc) fun h1 h2=>?_;exact ⟨h1,(dg.mp h2).imp bU bU⟩
 refine ST.setattr T.good.floor (T.good.field hc.2) (KP hc.2) hc.1 (((d.on hk o Sub.rfl h fun x Aa Ac Al Ag Ad=>(d'.on hk Al Ag Ad fun a Ab Aj AF At Ah=>?_).monoX hY.xf)).monoX hY.xf);obtain ⟨b,i,d,fs,rfl,z,z',hz,Ah⟩:=Ah.out;obtain ⟨J0,FL⟩:=At.set (p:=.attrs (Jh fs (fld n) x)) AF z';exact ⟨b,i,d,fs,rfl,At.at AF z,At.at AF z',hz,m,_,rfl,FL,J0,Ah⟩
set_option tactic.hygienic true in
theorem ID{e ob i:E}{f g h:WT}(d:Sd S k e f X)(d':Sd S k ob g X)(d2:Sd S k i h X):SdS S k (.setitem ob i e) (fun m V K=>quiet (AJ e) (f.v aa m V (fun x Aa=>g.v aa m Aa (fun a Ab=>h.v aa m Ab (fun k Ap=>slotD Ap a fun b j l=>l.length<=big/\spotW k fun kk=>K .next m (Ap.set j (.at b (.dict (Bo l kk x))))))))) X:=by
 intro F hk Y hY m V K o q;refine Ao q.out fun hn q=>?_;refine ST.setitem hn (((d.on hk o Sub.rfl q fun x Aa Ac Al Ag Ad=>((d'.on hk Al Ag Ad fun a Ab Aj AF At Ah=>((d2.on hk AF At Ah fun kk Ap BB C4 BQ AI=>?_).monoX hY.xf)).monoX hY.xf)).monoX hY.xf));obtain ⟨b,j,l,rfl,z,hz,AI⟩:=AI.out;obtain ⟨kk,rfl,AI⟩:=AI.out;refine Ao (BQ.set (p:=.dict (Bo l kk x)) C4 z) fun J0 FL=>?_;exact ⟨b,j,l,kk,rfl,rfl,BQ.at C4 z,hz,m,_,rfl,FL,J0,AI⟩
theorem E.g?_out{e:E}{i:Nat}(h:e.g?=some i):e=.g i:=by
 cases e with
 | g j=>cases h;rfl
 | _=>exact (Ak rfl h).elim
theorem call1?_out{e:E}{p:Nat×E}(h:call1? e=some p):e=.call (.g p.1) [p.2]:=by
 cases e with
 | call f es =>
  refine X1pp (AG (show f.g?.bind (fun i=>(one? es).bind fun e=>some (i,e))=some p from h)) fun i h1 h=>?_
  refine X1pp (AG h) fun a h2 h=>?_
  cases h
  rw [one?_out h2,E.g?_out h1]
 | _=>exact (Ak rfl h).elim
theorem I5{e e':E}(h:Lg e=some e'):e=.call (.g 9) [e']:=by
 refine X1pp (AG h) fun p h1 h=>?_
 cases q:cw p.1 9 with
 | false=>rw [q] at h;cases h
 | true=>rw [q] at h;cases h;rw [call1?_out h1,bU q]
set_option tactic.hygienic true in
theorem srcS_ok{p:Pat}{e:E}{body:List Mine.Internal.S}{g:M->LS->KS->Prop}(T:TabOk S W k Φ)(d':SdSs S k body g X)(F:Fx S)(hk:k<=F.k)(Y:Value->ae->Prop)(hY:Xo F X Y)(m:M)(V:LS)(K:KS)(o:okS V)
  (h:srcS Φ X p e m V (fun items ok Ab=>I2 Φ.q p g ok K items m Ab)):ST F (vr m) (Av V) (.for_ p e body) (UpS K) Y:=by
 unfold srcS at h
 split at h
 ·rename_i e' he
  split at h
  ·rename_i hp
   rw [I5 he]
   cases p with
   | v i=>cases hp
   | tup ps=>exact enum_ok T (AM T e' X) d' F hk Y hY m V K o h
  ·exact h.elim
 ·exact for_ok T (AM T e X) d' F hk Y hY m V K o h
mutual
theorem wpS_ok(T:TabOk S W k Φ):∀(st:Mine.Internal.S)(X:XL),SdS S k st (wpS Φ st X) X
 | .assign p e,X=>LF T
 | .setattr ob n e,X=>IE T (AM T e X) (AM T ob X)
 | .setitem ob i e,X=>ID (AM T e X) (AM T ob X) (AM T i X)
 | .expr e,X=>fun F hk Y hY m V K o h=>ST.expr (quiet.out h).1 (((AM T e X).on hk o Sub.rfl (quiet.out h).2 fun a Aa Ac Al Ag Ad=>⟨m,Aa,rfl,Ag,Al,Ad⟩).monoX hY.xf)
 | .ret e,X=>fun F hk Y hY m V K o h=>ST.ret (((AM T e X).on hk o Sub.rfl h fun a Aa Ac Al Ag Ad=>⟨m,Aa,rfl,Ag,Al,Ad⟩).monoX hY.xf)
 | .ite c a b,X=>fun F hk Y hY m V K o h=>ST.ite (((AM T c X).onT hk o Sub.rfl h fun t Aa Ac Al Ag Ad=>by
  cases t with
  | true=>exact SsT.less Ag (Ck T a X F hk Y hY m Aa K Al Ad)
  | false=>exact SsT.less Ag (Ck T b X F hk Y hY m Aa K Al Ad)).monoX hY.xf)
 | .for_ p e body,X=>fun F hk Y hY m V K o h=>srcS_ok T (Ck T body X) F hk Y hY m V K o h
 | .while_ c body,X=>while_ok (AM T c X) (Ck T body X)
 | .raise e,X=>fun F hk Y hY m V K o h=>h.elim
 | .try_ _ _ _ _,X=>fun F hk Y hY m V K o h=>h.elim
 | .pass,X=>fun F hk Y hY m V K o h=>ST.pass ⟨m,V,rfl,Sub.rfl,o,h⟩
theorem Ck(T:TabOk S W k Φ):∀(ss:List Mine.Internal.S)(X:XL),SdSs S k ss (wpSs Φ ss X) X
 | [],X=>fun F hk Y hY m V K o h=>SsT.nil ⟨m,V,rfl,Sub.rfl,o,h⟩
 | s::r,X=>fun F hk Y hY m V K o h=>SsT.cons ((wpS_ok T s X F hk Y hY m V _ o h).mono fun fl Am Ac z=>by
  obtain ⟨m1,Aa,em,Ag,Al,z⟩:=z;subst em
  cases fl with
  | next=>exact SsT.less Ag (Ck T r X F hk Y hY m1 Aa K Al z)
  | ret v=>exact ⟨m1,Aa,rfl,Ag,Al,z⟩)
end
end
end
section
variable {S:Sta}{W:Wd}
theorem RepO.nf{cv:Nat->Value}{h:Heap}{D:Addr->Prop}{o:AObj}{a:Addr}(r:RepO cv h D o a):∃ob,h.get? a=some ob/\∀vs,ob.data≠.fields vs:=by
 cases r with
 | list e _=>exact ⟨_,e,fun Z z=>by cases z⟩
 | dict e _ _ _=>exact ⟨_,e,fun Z z=>by cases z⟩
 | inst e _=>exact ⟨_,e,fun Z z=>by cases z⟩
 | attrs e _=>exact ⟨_,e,fun Z z=>by cases z⟩
inductive FrK(Aa V:Store){α:Type}(Q:α->Store->Prop)(v:α)(s:Store):Prop
 | mk (t:Store)(q:Q v t)(s1:∀a o,t a=some o->s a=some o)(s2:∀a o,V a=some o->Aa a=aa->s a=some o)(new:∀a,Dom t a->Dom Aa a\/V a=aa):FrK Aa V Q v s
theorem Bv{V:Store}{a:Addr}{o:AObj}(e:V a=some o):Dom V a:=by unfold Dom;rw [e];simp
theorem Cg{V:Store}{a:Addr}(d:Dom V a):∃o,V a=some o:=by
 cases e:V a with
 | none=>exact absurd e d
 | some o=>exact ⟨o,rfl⟩
noncomputable abbrev Hid(Aa V:Store)(a:Addr):Prop:=Dom V a/\¬Dom Aa a
open Classical in
noncomputable def E8(Aa V t:Store):Store:=fun a=>if Hid Aa V a then V a else t a
structure Framed(S:Sta)(N:Addr->Prop)(A:cz)(Aa V:Store)(s:ae)(t:Store)(s':ae):Prop where
 st:Step (Frm A) noO V s (E8 Aa V t) s'
 i:Inv S N (E8 Aa V t) s'
 d:∀b,DN N (E8 Aa V t) b->DN (fun a=>N a\/Hid Aa V a) t b
 nw:∀a,Dom t a->Dom Aa a\/V a=aa
theorem I0{N:Addr->Prop}{A:cz}{k:Nat}{Aa V t:Store}{s s':ae}(u:∀a o,Aa a=some o->V a=some o)(O:Room S N k A)(hi:Inv S N V s)
  (st:Step (Frm A) noO Aa s t s') (i:Inv S (fun a=>N a\/Hid Aa V a) t s'):Framed S N A Aa V s t s':=by
 have hH:∀{a},Hid Aa V a->E8 Aa V t a=V a:=fun h=>if_pos h;have hN:∀{a},¬Hid Aa V a->E8 Aa V t a=t a:=fun h=>if_neg h;have ds:∀{a},Dom Aa a->Dom V a:=fun d=>by refine X1p (Cg d) fun o e=>?_;exact Bv (u _ _ e)
 have dj:∀{a},Dom (E8 Aa V t) a->Hid Aa V a\/Dom t a:=fun {a} d=>by
  by_cases h:Hid Aa V a
  ·exact .inl h
  ·right;unfold Dom at d ⊢;rw [hN h] at d;exact d
 have fN:∀{a},Frm A a->N a:=fun {a} ⟨l,el,e,he,hf⟩=>by
  refine X1pp O.fr fun l' B hl=>?_;rw [el] at B;cases B;refine Ao (hl e he) fun Z Z0=>?_;refine X1ppp Z0 fun L h2 h3 Z=>?_;rw [hf] at h2;cases h2;exact h3
 have dm:∀b,Dom (E8 Aa V t) b->Dom V b\/s.heap.get? b=aa:=fun b d=>(dj d).elim (fun h=>.inl h.1) fun h=>(st.dom b h).imp ds id;have dd:∀b,DN N (E8 Aa V t) b->DN (fun a=>N a\/Hid Aa V a) t b:=fun b d=>d.elim (fun d=>(dj d).elim (fun h=>.inr (.inr h)) .inl) fun h=>.inr (.inl h);refine ⟨⟨st.ext.mono fun a h=>h.imp ds id,fun b o e p ho d=>st.frm b o e p ho fun q=>d (ds q),dm,st.there⟩,⟨i.keep,i.gens,i.drawn,i.os,fun a d=>(dj d).elim (fun h=>hi.σg a h.1) (i.σg a),fun a d n=>(dj d).elim (fun h=>hi.σN a h.1 n) fun h=>i.σN a h (.inl n),fun a n=>i.Nin a (.inl n),fun a o e=>?_⟩,dd,fun a d=>?_⟩
 ·by_cases h:Hid Aa V a
  ·rw [hH h] at e
   refine (hi.rep a o e).ext (D:=DN N V) (st.ext.mono fun b q=>q.elim (fun q=>.inl (ds q)) fun q=>q.elim (fun q=>q.elim) fun q=>.inr (fN q)) (fun b d=>d.elim (fun d=>(dm b d).imp .inl id) fun d=>.inl (.inr d)) fun ob e'=>?_;exact st.ext.obj a ob e' fun q=>q.elim h.2 fun q=>q.elim (fun q=>q.elim) fun q=>hi.σN a h.1 (fN q)
  ·rw [hN h] at e
   exact (i.rep a o e).ext (Ext.refl _ _) (fun b d=>.inl (dd b d)) fun Z q=>q
 ·rcases st.dom a d with q | q
  ·exact .inl q
  ·refine .inr ?_
   cases e:V a with
   | none=>rfl
   | some o=>refine X1pp ((hi.rep a o e).there) fun ob e' Z=>?_;rw [q] at e';cases e'
theorem FrK.of{N:Addr->Prop}{A:cz}{Aa V t:Store}{s s':ae}{α:Type}{Q:α->Store->Prop}{v:α}(f:Framed S N A Aa V s t s')(i:Inv S (fun a=>N a\/Hid Aa V a) t s')(q:Q v t):FrK Aa V Q v (E8 Aa V t):=by
 refine ⟨t,q,fun a o e=>?_,fun a o e n=>?_,f.nw⟩
 ·have:¬Hid Aa V a:=fun h=>i.σN a (Bv e) (.inr h)
  exact (if_neg this).trans e
 ·exact (if_pos ⟨Bv e,fun d=>d n⟩).trans e
theorem CallT.frame{k:Nat}{f:Value}{T:List AV}{Aa V:Store}{Q:AV->Store->Prop}{X:KX}(u:∀a o,Aa a=some o->V a=some o)(h:CallT S k f T Aa Q X):CallT S k f T V (FrK Aa V Q) (FrK Aa V X):=by
 intro N A U s O hi rl;have ds:∀{a},Dom Aa a->Dom V a:=fun d=>by refine X1p (Cg d) fun o e=>?_;exact Bv (u _ _ e)
 have dd:∀b,DN (fun a=>N a\/Hid Aa V a) Aa b->DN N V b:=fun b d=>d.elim (fun d=>.inl (ds d)) fun d=>d.elim .inr fun d=>.inl d.1;have B:Inv S (fun a=>N a\/Hid Aa V a) Aa s:=⟨hi.keep,hi.gens,hi.drawn,hi.os,fun a d=>hi.σg a (ds d),fun a d n=>n.elim (hi.σN a (ds d)) fun n=>n.2 d,fun a n=>n.elim (hi.Nin a) fun n=>by
   refine X1p (Cg n.1) fun o e=>?_;exact (hi.rep a o e).nf,fun a o e=>(hi.rep a o (u a o e)).ext (Ext.refl _ _) (fun b d=>.inl (dd b d)) fun Z q=>q⟩
 refine dF (h _ A U s (O.wide fun a n=>.inl n) B (rl.less dd)) fun r s' z=>?_
 cases r with
 | error e =>
  exact z
 | ok fl =>
  cases fl with
  | ret v =>
   obtain ⟨av,t,st,i,r,q⟩:=z;have f:=I0 u O hi st i;exact ⟨av,_,f.st,f.i,r.less f.d,FrK.of f i q⟩
  | _=>exact z
theorem Bf:∀{V:LS}{i j:Nat}{a:Addr}{o p:AObj},okS V->slot V i=.at a o->slot V j=.at a p->i=j
 | [],i,j,a,o,p,_,h,_=>by cases h
 | x::r,0,0,a,o,p,_,_,_=>rfl
 | x::r,0,j+1,a,o,p,k,h,h'=>by
  have:x=.at a o:=h
  clear h;subst this
  have:=Au k.2 (show slot r j=.at a p from h');rw [k.1] at this;cases this
 | x::r,i+1,0,a,o,p,k,h,h'=>by
  have:x=.at a p:=h'
  clear h';subst this
  have:=Au k.2 (show slot r i=.at a o from h);rw [k.1] at this;cases this
 | x::r,i+1,j+1,a,o,p,k,h,h'=>by
  have kr:okS r:=by cases x with
   | no=>exact k
   | «at» c q=>exact k.2
  exact congrArg e9 (Bf (V:=r) kr h h')
theorem Hw:∀{V:LS}{a:Addr}{o:AObj},.at a o∈V->∃i,slot V i=.at a o
 | x::r,a,o,h=>by
  rcases aD.mp h with q | q
  ·exact ⟨0,q.symm⟩
  ·refine X1p (Hw q) fun i e=>?_;exact ⟨i+1,e⟩
theorem A7{V:LS}{a:Addr}{o:AObj}(h:Av V a=some o):∃i,slot V i=.at a o:=Hw (Fy h)
theorem Es:∀{V:LS},(∀i j a o p,slot V i=.at a o->slot V j=.at a p->i=j)->okS V
 | [],_=>trivial
 | .no::r,h=>Es (V:=r) fun i j a o p h1 h2=>e6 (h (i+1) (j+1) a o p h1 h2)
 | .at b q::r,h=>by
  refine ⟨?_,Es (V:=r) fun i j a o p h1 h2=>e6 (h (i+1) (j+1) a o p h1 h2)⟩
  cases e:Av r b with
  | none=>rfl
  | some o=>refine X1p (A7 e) fun i z=>?_;cases h 0 (i+1) b q o rfl z
theorem Hj{V:LS}{i j:Nat}{s:Slot}{a:Addr}{o:AObj}(h:slot (V.set i s) j=.at a o):(j=i/\s=.at a o)\/(j≠i/\slot V j=.at a o):=by
 unfold slot at h ⊢;rw [az,List.getElem?_set] at h
 by_cases q:i=j
 ·subst q
  rw [if_pos rfl] at h
  by_cases z:i<V.length
  ·rw [if_pos z] at h;exact .inl ⟨rfl,h⟩
  ·rw [if_neg z] at h;cases h
 ·rw [if_neg q] at h
  exact .inr ⟨fun e=>q e.symm,by rw [az];exact h⟩
theorem DG:∀{l:List Nat},J5 l=true->l.Nodup
 | [],_=>.nil
 | i::r,h=>by
  refine Ao (aU.mp h) fun h1 h2=>?_;refine bz.mpr ⟨fun q=>?_,DG h2⟩
  have:r.any (cw i)=true:=dO.mpr ⟨i,q,Nat.beq_refl i⟩
  rw [this] at h1;cases h1
theorem C0:∀{ix:List Nat}{V τ:LS}{j:Nat}{a:Addr}{o:AObj},ix.Nodup->slot (wb V ix τ) j=.at a o->(j∉ix/\slot V j=.at a o)\/∃p,ix[p]?=some j/\slot τ p=.at a o
 | [],V,τ,j,a,o,_,h=>.inl ⟨bn,h⟩
 | i::r,V,s::τ,j,a,o,n,h=>by
  rw [bz] at n
  rcases C0 (ix:=r) n.2 h with ⟨h1,h2⟩ | ⟨p,h1,h2⟩
  ·rcases Hj h2 with ⟨rfl,q⟩ | ⟨q,z⟩
   ·exact .inr ⟨0,rfl,q⟩
   ·exact .inl ⟨fun m=>(aD.mp m).elim q h1,z⟩
  ·exact .inr ⟨p+1,h1,h2⟩
 | i::r,V,[],j,a,o,n,h=>by
  rw [bz] at n
  rcases C0 (ix:=r) n.2 h with ⟨h1,h2⟩ | ⟨p,h1,h2⟩
  ·rcases Hj h2 with ⟨rfl,q⟩ | ⟨q,z⟩
   ·cases q
   ·exact .inl ⟨fun m=>(aD.mp m).elim q h1,z⟩
  ·cases h2
theorem BH{V:LS}{ix:List Nat}{p:Nat}{a:Addr}{o:AObj}(h:slot (ix.map (slot V)) p=.at a o):∃i,ix[p]?=some i/\slot V i=.at a o:=by
 unfold slot at h;rw [az,aW] at h
 cases e:ix[p]? with
 | none=>rw [e] at h;cases h
 | some i=>rw [e] at h;exact ⟨i,rfl,h⟩
theorem nodup_at{l:List Nat}{p q i:Nat}(n:l.Nodup)(h1:l[p]?=some i)(h2:l[q]?=some i):p=q:=by
 have hp:p<l.length:=by
  rcases bJ p l.length with z | z
  ·exact z
  ·rw [ba z] at h1;cases h1
 exact (List.getElem?_inj hp n).mp (h1.trans h2.symm)
theorem JX{V:LS}{ix:List Nat}(k:okS V)(n:ix.Nodup):okS (ix.map (slot V))/\Sub (ix.map (slot V)) (Av V):=by
 refine ⟨Es fun i j a o p h1 h2=>?_,fun a o e=>?_⟩
 ·refine X1pp (BH h1) fun i' e1 z1=>?_
  refine X1pp (BH h2) fun j' e2 z2=>?_
  have:=Bf k z1 z2
  clear z2;subst this;exact nodup_at n e1 e2
 ·refine X1p (A7 e) fun p z=>?_
  refine X1pp (BH z) fun i Z z=>?_;exact Au k z
theorem wb_ok{V τ:LS}{ix:List Nat}{s:Store}(k:okS V)(n:ix.Nodup)(kt:okS τ)(ht:Sub τ s)(h2:∀a o,Av V a=some o->Av (ix.map (slot V)) a=aa->s a=some o)(nw:∀a,Dom (Av τ) a->Dom (Av (ix.map (slot V))) a\/Av V a=aa):okS (wb V ix τ)/\Sub (wb V ix τ) s:=by
 have U:∀{i a o p o'},i∉ix->slot V i=.at a o->slot τ p=.at a o'->False:=fun {i a o p o'} hn h1 h2=>by
  rcases nw a (Bv (Au kt h2)) with q | q
  ·refine X1p (Cg q) fun o2 e=>?_
   refine X1p (A7 e) fun p' z=>?_;refine X1pp (BH z) fun i' e1 z=>?_
   have:=Bf k h1 z
   clear z;subst this;exact hn (af e1)
  ·rw [Au k h1] at q;cases q
 refine ⟨Es fun i j a o p h1 h2=>?_,fun a o e=>?_⟩
 ·rcases C0 n h1 with ⟨n1,z1⟩ | ⟨p1,e1,z1⟩<;>rcases C0 n h2 with ⟨n2,z2⟩ | ⟨p2,e2,z2⟩
  ·exact Bf k z1 z2
  ·exact (U n1 z1 z2).elim
  ·exact (U n2 z2 z1).elim
  ·have:=Bf kt z1 z2
   clear z2;subst this;rw [e1] at e2;exact ar e2
 ·refine X1p (A7 e) fun j z=>?_
  rcases C0 n z with ⟨n1,z1⟩ | ⟨p1,e1,z1⟩
  ·refine h2 a o (Au k z1) ?_
   cases q:Av (ix.map (slot V)) a with
   | none=>rfl
   | some o' =>
    refine X1p (A7 q) fun p' z=>?_;refine X1pp (BH z) fun i' e1 z=>?_
    have:=Bf k z1 z
    clear z;subst this;exact (n1 (af e1)).elim
  ·exact ht a o (Au kt z1)
end
section
variable {S:Sta}{W:Wd}
noncomputable def isLD:AObj->Bool
 | .list _=>true
 | .dict _=>true
 | _=>false
noncomputable def newW(k:Nat)(V:LS)(v:AV)(js:List Nat)(os:List AObj)(K:Sh->List Nat->List AObj->Prop):Prop:=match v with
 | .loc a i=>(match slot V i with
  | .at b o=>(match isLD o && Nat.ble k i && !(js.any (cw i)) with
   | true=>b=a/\K (.new os.length) (js++[i]) (os++[o])
   | false=>False)
  | .no=>False)
 | _=>False
mutual
noncomputable def convW(k:Nat)(V:LS):Rs->AV->List Nat->List AObj->(Sh->List Nat->List AObj->Prop)->Prop
 | .val,v,js,os,K=>K (.val v) js os
 | .new,v,js,os,K=>newW k V v js os K
 | .tup rs,v,js,os,K=>(match v with
  | .tup vs=>H6 k V rs vs js os (fun sh js os=>K (.tup sh) js os)
  | _=>False)
 | .list rs,v,js,os,K=>(match v with
  | .list vs=>H6 k V rs vs js os (fun sh js os=>K (.list sh) js os)
  | _=>False)
noncomputable def H6(k:Nat)(V:LS):List Rs->List AV->List Nat->List AObj->(List Sh->List Nat->List AObj->Prop)->Prop
 | [],[],js,os,K=>K [] js os
 | r::rs,v::vs,js,os,K=>convW k V r v js os (fun sh js os=>H6 k V rs vs js os (fun shs js os=>K (sh::shs) js os))
 | _,_,_,_,_=>False
end
noncomputable def retW(rs:Rs)(k:Nat)(v:AV)(V:LS)(K:KR):Prop:=convW k V rs v [] [] (fun sh Z os=>K ⟨os,sh⟩ (V.take k))
noncomputable def flV:Fl->AV
 | .ret v=>v
 | .next=>.none
noncomputable def fnW(Φ:Tab)(c:Aq)(rs:Rs)(nv ns:Nat)(avs:List AV)(V:LS)(K:KR)(X:XL):Prop :=
 avs.length=c.n/\wpSs Φ c.body (fun e τ=>X e (τ.take V.length)) (avs.map some++be nv aa) (V++be ns .no) (fun fl Z τ=>retW rs V.length (flV fl) τ K)
mutual
inductive ShR(V:LS)(js:List Nat)(os:List AObj):Sh->AV->Prop
 | val (v:AV):ShR V js os (.val v) v
 | new {j i:Nat}{a:Addr}{o:AObj}:js[j]?=some i->slot V i=.at a o->os[j]?=some o->ShR V js os (.new j) (.loc a i)
 | tup {l:List Sh}{vs:List AV}:ShRL V js os l vs->ShR V js os (.tup l) (.tup vs)
 | list {l:List Sh}{vs:List AV}:ShRL V js os l vs->ShR V js os (.list l) (.list vs)
inductive ShRL(V:LS)(js:List Nat)(os:List AObj):List Sh->List AV->Prop
 | nil:ShRL V js os [] []
 | cons {s:Sh}{v:AV}{l:List Sh}{vs:List AV}:ShR V js os s v->ShRL V js os l vs->ShRL V js os (s::l) (v::vs)
end
theorem GV{α:Type}{l k:List α}{i:Nat}{x:α}(h:l[i]?=some x):(l++k)[i]?=some x:=by
 have:i<l.length:=by
  rcases bJ i l.length with z | z
  ·exact z
  ·rw [ba z] at h;cases h
 rw [b8 this];exact h
theorem ShR.more{V:LS}{js js':List Nat}{os os':List AObj}{s:Sh}{v:AV}(h:ShR V js os s v):ShR V (js++js') (os++os') s v :=
 ShR.rec (motive_1:=fun s v Z=>ShR V (js++js') (os++os') s v) (motive_2:=fun l vs Z=>ShRL V (js++js') (os++os') l vs)
  (fun v=>.val v) (fun a b c=>.new (GV a) b (GV c)) (fun Z h=>.tup h) (fun Z h=>.list h) .nil (fun Z Z a b=>.cons a b) h
structure Fine(k:Nat)(V:LS)(js:List Nat)(os:List AObj):Prop where
 len:js.length=os.length
 nd:js.Nodup
 at_:∀(j i:Nat),js[j]?=some i->k<=i/\∃a o,slot V i=.at a o/\os[j]?=some o/\isLD o=true
inductive Conv(k:Nat)(V:LS)(js:List Nat)(os:List AObj){α:Type}(R:α->List Nat->List AObj->Prop)(K:α->List Nat->List AObj->Prop):Prop
 | mk (sh:α)(js':List Nat)(os':List AObj)(f:Fine k V (js++js') (os++os'))(r:R sh (js++js') (os++os'))(h:K sh (js++js') (os++os')):Conv k V js os R K
set_option tactic.hygienic true in
theorem newW_ok{k:Nat}{V:LS}{v:AV}{js:List Nat}{os:List AObj}{K:Sh->List Nat->List AObj->Prop}(f:Fine k V js os)(h:newW k V v js os K):Conv k V js os (fun s js os=>ShR V js os s v) K:=by
 unfold newW at h
 split at h
 ·rename_i a i
  split at h
  ·rename_i b o z
   split at h
   ·rename_i q
    obtain ⟨rfl,h⟩:=h;obtain ⟨q1,q3⟩:=aU.mp q;obtain ⟨q1,q2⟩:=aU.mp q1;refine ⟨_,[i],[o],⟨?_,?_,?_⟩,.new (j:=os.length) ?_ z ?_,h⟩
    ·rw [ao,ao,f.len];rfl
    ·rw [bF]
     refine ⟨f.nd,bz.mpr ⟨bn,.nil⟩,fun x hx y hy e=>?_⟩;have hy:=aJ.mp hy;subst e;subst hy
     have:js.any (cw x)=true:=dO.mpr ⟨x,hx,Nat.beq_refl x⟩
     rw [this] at q3;cases q3
    ·intro j i' hj
     rcases bJ j js.length with z' | z'
     ·rw [b8 z'] at hj
      refine Ao (f.at_ j i' hj) fun h1 Z0=>?_;refine X2ppp Z0 fun a' o' h2 h3 h4=>?_;exact ⟨h1,a',o',h2,GV h3,h4⟩
     ·rw [bf z'] at hj
      cases hjj:j - js.length with
      | zero =>
       rw [hjj] at hj;cases hj;refine ⟨Nat.ble_eq.mp q2,b,o,z,?_,q1⟩;rw [bf (by rw [<- f.len];exact z'),<- f.len,hjj];rfl
      | succ n=>rw [hjj] at hj;cases hj
    ·rw [<- f.len,bf (ay _),fj];rfl
    ·rw [bf (ay _),fj];rfl
   ·exact h.elim
  ·exact h.elim
 ·exact h.elim
mutual
theorem Fh{k:Nat}{V:LS}:∀{rs:Rs}{v:AV}{js:List Nat}{os:List AObj}{K:Sh->List Nat->List AObj->Prop},Fine k V js os->convW k V rs v js os K->Conv k V js os (fun s js os=>ShR V js os s v) K
 | .val,v,js,os,K,f,h=>⟨_,[],[],by rw [aM,aM];exact f,.val v,by rw [aM,aM];exact h⟩
 | .new,v,js,os,K,f,h=>newW_ok f h
 | .tup rs,v,js,os,K,f,h=>by
  cases v with
  | tup vs=>obtain ⟨l,js',os',f',r,h⟩:=DZ f h;exact ⟨_,js',os',f',.tup r,h⟩
  | _=>exact h.elim
 | .list rs,v,js,os,K,f,h=>by
  cases v with
  | list vs=>obtain ⟨l,js',os',f',r,h⟩:=DZ f h;exact ⟨_,js',os',f',.list r,h⟩
  | _=>exact h.elim
theorem DZ{k:Nat}{V:LS}:∀{rs:List Rs}{v:List AV}{js:List Nat}{os:List AObj}{K:List Sh->List Nat->List AObj->Prop},Fine k V js os->H6 k V rs v js os K->Conv k V js os (fun s js os=>ShRL V js os s v) K
 | [],[],js,os,K,f,h=>⟨_,[],[],by rw [aM,aM];exact f,.nil,by rw [aM,aM];exact h⟩
 | r::rs,v::vs,js,os,K,f,h=>by
  obtain ⟨s,js',os',f',r1,h⟩:=Fh f h;obtain ⟨l,Y,T,f2,r2,h⟩:=DZ f' h;rw [aI,aI] at f2 r2 h;refine ⟨_,js'++Y,os'++T,f2,.cons ?_ r2,h⟩
  have:=r1.more (js':=Y) (os':=T)
  rw [aI,aI] at this;exact this
 | [],_::_,_,_,_,_,h=>h.elim
 | _::_,[],_,_,_,_,h=>h.elim
end
theorem Fine.nil{k:Nat}{V:LS}:Fine k V [] []:=⟨rfl,.nil,fun Z Z h=>by cases h⟩
theorem ShR.rep{cv:Nat->Value}{h:Heap}{D D':Addr->Prop}{V:LS}{js:List Nat}{os:List AObj}{f:Nat->AV}{s:Sh}{v:AV}(hr:ShR V js os s v)(hf:∀(j i:Nat)(a:Addr)(o:AObj),js[j]?=some i->slot V i=.at a o->os[j]?=some o->Rep cv h D' (f j) (.ref a))
  (hl:∀{v u},Rep cv h D v u->Rep cv h D' v u) (hd:∀a,D' a->D a):∀{u:Value},Rep cv h D v u->Rep cv h D' (s.with f) u :=
 ShR.rec (motive_1:=fun s v Z=>∀{u:Value},Rep cv h D v u->Rep cv h D' (s.with f) u) (motive_2:=fun l vs Z=>∀{us:List Value},RepL cv h D vs us->RepL cv h D' (Sh.withL f l) us)
  (fun v u r=>hl r) (fun a b c u r=>by rw [show u=cE _ from r.inv];exact hf _ _ _ _ a b c)
  (fun Z ih u r=>by obtain ⟨a,vs,n,rfl,e,d,r⟩:=r.inv;exact .tup e (fun q=>d (hd _ q)) (ih r)) (fun Z ih u r=>by obtain ⟨a,vs,n,rfl,e,d,r⟩:=r.inv;exact .list e (fun q=>d (hd _ q)) (ih r))
  (fun r=>by rw [show _=([]:List Value) from r.inv];exact .nil) (fun Z Z Y B us r=>by refine X2lpp us r.inv fun v rr r1 r2=>?_;exact .cons (Y r1) (B r2)) hr
inductive OutF(K:KR)(v:AV)(s:Store):Prop
 | mk (r:RT)(τ:LS)(e:v=r.sh.with (frzN r.os))(k:okS τ)(hs:Sub τ s)(h:K r τ):OutF K v s
noncomputable def IX:List Addr->Nat->List AV
 | [],_=>[]
 | a::r,i=>.loc a i::IX r (i+1)
theorem FJ:∀{as:List Addr}{i j:Nat}{a:Addr},as[j]?=some a->∃n,(IX as i).getD j .none=.loc a n
 | a::r,i,0,_,h=>by cases h;exact ⟨i,rfl⟩
 | _::r,i,j+1,a,h=>FJ (as:=r) (i:=i+1) (j:=j) h
inductive OutM(i:Nat)(K:KR)(v:AV)(s:Store):Prop
 | mk (r:RT)(τ:LS)(as:List Addr)(e:v=r.sh.with (fun j=>(IX as i).getD j .none))(k:okS τ)(hs:Sub τ s)(nd:as.Nodup)(len:as.length=r.os.length)(at_:∀(j:Nat)(o:AObj),r.os[j]?=some o->∃a,as[j]?=some a/\s a=some o/\Av τ a=aa)(h:K r τ):OutM i K v s
theorem BC{V:LS}{k p:Nat}{a:Addr}{o:AObj}(h:slot (V.take k) p=.at a o):p<k/\slot V p=.at a o:=by
 unfold slot at h ⊢;rw [az,List.getElem?_take] at h
 by_cases q:p<k
 ·rw [if_pos q] at h;exact ⟨q,by rw [az];exact h⟩
 ·rw [if_neg q] at h;cases h
theorem Dx{V:LS}{k:Nat}(o:okS V):okS (V.take k)/\∀a p,Av (V.take k) a=some p->Av V a=some p:=by
 refine ⟨Es fun i j a p q h1 h2=>Bf o (BC h1).2 (BC h2).2,fun a p e=>?_⟩;refine X1p (A7 e) fun i z=>?_;exact Au o (BC z).2
theorem HP:∀{os:List AObj}{j:Nat}{o:AObj},os[j]?=some o->frzN os j=frz o
 | o::os,0,_,h=>by cases h;rfl
 | _::os,j+1,o,h=>HP (os:=os) h
theorem Dq{rs:Rs}{k:Nat}{fl:Fl}{V:LS}{s:Store}{K:KR}{m:Vars}(o:okS V)(hs:Sub V s)(h:retW rs k (flV fl) V K):RetK S (OutF K) fl m s:=by
 intro N;obtain ⟨sh,js,os,f,r,h⟩:=Fh Fine.nil h;simp only [ga] at f r h
 let as:List Addr:=js.filterMap fun i=>match slot V i with
  | .at a _=>some a
  | .no=>aa
 have mem:∀{i a p},i∈js->slot V i=.at a p->a∈as:=fun {i a p} hi z=>gB.mpr ⟨i,hi,by rw [z]⟩
 refine ⟨sh.with (frzN os),s.dels as,?_,⟨os,sh⟩,V.take k,rfl,(Dx o).1,fun a p e=>?_,h⟩
 ·show View S N (flV fl) _ _ _
  intro t u hi ru;refine Ao (hi.drop (V':=s.dels as) fun b p e=>(CK e).2) fun i st=>?_;refine ⟨i,st,r.rep (D:=DN N s) (D':=DN N (s.dels as)) (fun j i' a p hj z hp=>?_) (fun r=>r.step st (fun Z h=>h.elim) (fun Z h=>h.elim)) (fun a d=>d.imp (fun d=>?_) id) ru⟩
  ·have sa:s a=some p:=hs.at o z
   have ia:a∈as:=mem (af hj) z;rw [HP hp];refine Ao (f.at_ j i' hj) fun Z Z0=>?_;refine X2ppp Z0 fun a' o' z' O hl=>?_;rw [z] at z';cases z'
   cases p with
   | list l =>
    refine X2pp ((hi.rep a _ sa).inv) fun vs n e r=>?_;exact .list e (fun d=>d.elim (A5 ia) (hi.σN a (Bv sa))) (r.step st (fun Z h=>h.elim) (fun Z h=>h.elim))
   | dict l =>
    refine X2pppp ((hi.rep a _ sa).inv) fun vs n e sm nd r=>?_;exact .dict e (fun d=>d.elim (A5 ia) (hi.σN a (Bv sa))) sm nd (r.step st (fun Z h=>h.elim) (fun Z h=>h.elim))
   | _=>cases hl
  ·refine X1p (Cg d) fun p e=>?_;exact Bv (CK e).2
 ·refine X1p (A7 e) fun i z=>?_
  refine Ao (BC z) fun U z=>?_;unfold Store.dels;rw [if_neg]
  ·exact hs.at o z
  ·intro q
   refine X1pp (gB.mp q) fun i' B e'=>?_;refine X1p (fR B) fun j hj=>?_;refine Ao (f.at_ j i' hj) fun hk Z1=>?_;refine X2ppp Z1 fun a' o' z' Z Z=>?_;rw [z'] at e'
   cases e'
   have:=Bf o z z'
   exact lin [i,k,i'] [] .no [.c V0 V1,.b V1 V2,.D (-1) V0 V2] rfl U hk this
theorem ret_keep{rs:Rs}{k i:Nat}{fl:Fl}{V:LS}{s:Store}{K:KR}{m:Vars}(o:okS V)(hs:Sub V s)(h:retW rs k (flV fl) V K):RetK S (OutM i K) fl m s:=by
 intro N;obtain ⟨sh,js,os,f,r,h⟩:=Fh Fine.nil h;simp only [ga] at f r h
 let ad:Nat->Addr:=fun i=>match slot V i with
  | .at a _=>a
  | .no=>0
 have B:∀{i a p},slot V i=.at a p->ad i=a:=fun {i a p} z=>by simp only [ad,z]
 refine ⟨sh.with (fun j=>(IX (js.map ad) i).getD j .none),s,?_,⟨os,sh⟩,V.take k,js.map ad,rfl,(Dx o).1,fun a p e=>hs a p ((Dx o).2 a p e),?_,?_,fun j p hp=>?_,h⟩
 ·show View S N (flV fl) _ _ _
  intro t u hi ru;refine ⟨hi,Step.refl _ _ _ _,r.rep (fun j i' a p hj z hp=>?_) (fun r=>r) (fun Z d=>d) ru⟩;refine X1p (FJ (as:=js.map ad) (i:=i) (j:=j) (a:=a) (by rw [aW,hj];exact congrArg some (B z))) fun n e=>?_
  rw [e];exact .loc _ _
 ·refine cM.mpr (List.Pairwise.imp_of_mem (fun {i j} hi hj hne e=>?_) f.nd)
  refine X1p (fR hi) fun p hp=>?_;refine X1p (fR hj) fun q hq=>?_;refine Ao (f.at_ p i hp) fun Z Z0=>?_;refine X2pp Z0 fun a o1 z1 Z=>?_;refine Ao (f.at_ q j hq) fun Z Z1=>?_;refine X2pp Z1 fun b o2 z2 Z=>?_;rw [B z1,B z2] at e;subst e;exact hne (Bf o z1 z2)
 ·rw [aj];exact f.len
 ·have hj:j<js.length:=by
   rw [f.len]
   rcases bJ j os.length with z | z
   ·exact z
   ·have hp:os[j]?=some p:=hp
    rw [ba z] at hp;cases hp
  obtain ⟨i',hi'⟩:∃i',js[j]?=some i':=⟨_,aE hj⟩;refine Ao (f.at_ j i' hi') fun hk Z2=>?_;refine X2ppp Z2 fun a o' z T Z=>?_;have hp:os[j]?=some p:=hp;rw [hp] at T;cases T;refine ⟨a,by rw [aW,hi'];exact congrArg some (B z),hs.at o z,?_⟩
  cases e:Av (V.take k) a with
  | none=>rfl
  | some p' =>
   refine X1p (A7 e) fun q zq=>?_;refine Ao (BC zq) fun hq zq=>?_
   have:=Bf o zq z
   omega
end
section
variable {S:Sta}{W:Wd}
theorem CZ:∀{V:LS}{n:Nat},Av (V++be n .no)=Av V
 | [],0=>rfl
 | [],n+1=>by funext a;exact congrFun (CZ (V:=[]) (n:=n)) a
 | .no::r,n=>by funext a;exact congrFun (CZ (V:=r) (n:=n)) a
 | .at b o::r,n=>by
  funext a
  have:=congrFun (CZ (V:=r) (n:=n)) a
  show (if a=b then some o else Av (r++be n .no) a)=if a=b then some o else Av r a;rw [this]
theorem DE:∀{V:LS}{n:Nat},okS V->okS (V++be n .no)
 | [],0,_=>trivial
 | [],n+1,k=>DE (V:=[]) (n:=n) k
 | .no::r,n,k=>DE (V:=r) k
 | .at b o::r,n,k=>⟨(congrFun (CZ (V:=r) (n:=n)) b).trans k.1,DE (V:=r) k.2⟩
theorem vr_pad(m:M)(n:Nat):vr (m++be n aa)=vr m:=by
 funext i
 unfold vr;rw [az,az]
 rcases bJ i m.length with h | h
 ·rw [b8 h]
 ·rw [bf h,ba h]
  rw [dP]
  split<;>rfl
theorem XR.mono{F:Fx S}{X X':KX}{e:Value}{s:ae}(k:∀c V,X c V->X' c V)(h:XR F X e s):XR F X' e s:=h
theorem DS{Φ:Tab}{k:Nat}{fa:Addr}{c:Aq}{rs:Rs}{nv ns:Nat}{u:List AV}{V:LS}{K:KR}{X:XL}{Q:AV->Store->Prop}(T:TabOk S W k Φ)(hf:IsFn S fa c)(o:okS V)(h:fnW Φ c rs nv ns u V K X)
  (hr:∀{fl:Fl}{m:Vars}{τ:LS}{s:Store},okS τ->Sub τ s->retW rs V.length (flV fl) τ K->RetK S Q fl m s):CallT S (k+1) (.ref fa) u (Av V) Q (Up X):=by
 refine CallT.body hf h.1 fun F hk ht Y y1 y2=>?_;have x:Xo F (fun e τ=>X e (τ.take V.length)) Y:=⟨fun e s z=>y1 e s (z.mono fun c t z=>by
  obtain ⟨τ,hs,ok,z⟩:=z;exact ⟨τ.take V.length,fun a p e=>hs a p ((Dx ok).2 a p e),(Dx ok).1,z⟩),y2⟩
 have:=Ck T c.body _ F (ew hk.symm) Y x _ _ _ (DE (n:=ns) o) h.2
 rw [vr_pad,Jl,CZ] at this;refine SsT.mono this fun fl m s z=>?_;obtain ⟨m1,τ,em,hs,ok,z⟩:=z;exact hr ok hs z
theorem Fr:∀{os:List AObj}{as:List Addr}{i:Nat}{τ:LS}{s:Store}{acc:List AV}{K:List AV->LS->Prop},okS τ->Sub τ s->as.Nodup->as.length=os.length->(∀(j:Nat)(o:AObj),os[j]?=some o->∃a,as[j]?=some a/\s a=some o/\Av τ a=aa)->LJ os i τ acc K->∃τ',okS τ'/\Sub τ' s/\K (acc++IX as i) τ'
 | [],[],i,τ,s,acc,K,k,hs,_,_,_,h=>⟨τ,k,hs,by rw [show IX [] i=[] from rfl,aM];exact h⟩
 | o::os,a::as,i,τ,s,acc,K,k,hs,nd,hl,ha,h=>by
  refine X1ppp (ha 0 o rfl) fun a' e sa na=>?_
  cases e
  rw [bz] at nd;have f:Fits τ i (.at a o):=fun Z Z e=>by cases e;exact .inl na
  have sub:=EX k f
  have:=Fr (os:=os) (as:=as) (i:=i+1) (s:=s) (DB k f) (fun b p e=>by
   have:=sub b p e
   by_cases z:b=a
   ·clear nd hl ha na f sub e;subst z;rw [Store.set_self] at this;cases this;exact sa
   ·rw [Store.set_ne _ _ z] at this;exact hs b p this) nd.2 (e6 hl) (fun j p hp=>by
    refine X1ppp (ha (j+1) p hp) fun b hb sb nb=>?_;refine ⟨b,hb,sb,?_⟩
    cases e:Av (τ.set i (.at a o)) b with
    | none=>rfl
    | some p' =>
     have:=sub b p' e
     have ne:b≠a:=fun z=>nd.1 (by clear nd hl ha sa na f sub e;subst z;exact af hb)
     rw [Store.set_ne _ _ ne,nb] at this;cases this) (h a)
  refine X1ppp this fun τ' k' y h'=>?_;exact ⟨τ',k',y,by rw [aI] at h';exact h'⟩
 | [],_::_,_,_,_,_,_,_,_,_,hl,_,_=>by cases hl
 | _::_,[],_,_,_,_,_,_,_,_,hl,_,_=>by cases hl
theorem OutF.up{K:KV}{v:AV}{s:Store}(h:OutF (fun r τ=>giveW aa r τ K) v s):Up K v s:=by
 obtain ⟨r,τ,rfl,k,hs,h⟩:=h;exact ⟨τ,hs,k,h⟩
theorem OutM.up{i:Nat}{K:KV}{v:AV}{s:Store}(h:OutM i (fun r τ=>giveW (some i) r τ K) v s):Up K v s:=by
 obtain ⟨r,τ,as,rfl,k,hs,nd,len,at_,h⟩:=h;refine X1ppp (Fr k hs nd len at_ h) fun τ' k' z h=>?_;exact ⟨τ',z,k',h⟩
theorem Cy{cv:Nat->Value}{h:Heap}{D:Addr->Prop}:∀{u:List AV}{n:Nat}{U:List Value},RepL cv h D u U->RepL cv h D (Bs u n) U
 | [],_,_,r=>r
 | x::l,n,U,r=>by
  refine X2lpp U r.inv fun v rr r1 r2=>?_;unfold Bs
  cases x with
  | loc a i=>rw [show v=.ref a from r1.inv];exact .cons (.loc _ _) (Cy r2)
  | _=>exact .cons r1 (Cy r2)
theorem CallT.relab{k:Nat}{f:Value}{u:List AV}{n:Nat}{V:Store}{Q:AV->Store->Prop}{X:KX}(h:CallT S k f (Bs u n) V Q X):CallT S k f u V Q X:=fun N A U s O hi rl=>h N A U s O hi (Cy rl)
structure FnOk(Φ:Tab)(c:Aq)(rs:Rs)(nv ns:Nat)(f:FS):Prop where
 spec:∀avs V K X,f.spec avs V K X->fnW Φ c rs nv ns avs V K X
 pure:∀avs v,f.pure avs=some v->∀K:KR,K ⟨[],.val v⟩ []->fnW Φ c .val nv ns avs [] K CA
set_option tactic.hygienic true in
theorem Snd.of{k:Nat}{fv:Value}{f:FS}(h1:∀u V K X,okS V->f.spec u V K X->CallT S k fv u (Av V) (OutF K) (Up X)/\∀i,CallT S k fv u (Av V) (OutM i K) (Up X))
  (h2:∀u v,f.pure u=some v->CallT S k fv u (Av []) (OutF fun r Z=>r=⟨[],.val v⟩) (Up CA)):Snd S k fv f:=by
 intro F hk m mu u V K X o q;unfold ownW at q
 split at q
 ·rename_i v hv
  refine CT.own (CallT.mono (CallT.frame (V:=Av V) (fun a p e=>by cases e) (h2 u v hv)) (fun a s z=>?_) fun c s z=>?_) hk
  ·obtain ⟨t,⟨r,τ,e,_,_,e'⟩,s1,s2,_⟩:=z
   subst e';subst e;exact ⟨V,fun a p e=>s2 a p e rfl,o,q⟩
  ·obtain ⟨t,⟨τ,_,_,z⟩,_⟩:=z
   exact z.elim
 ·split at q
  ·have q:=h1 _ _ _ _ o q
   cases mu with
   | none=>exact CT.own (CallT.mono q.1 (fun a s z=>z.up) fun c s z=>z) hk
   | some i=>exact CT.own (CallT.mono (q.2 i) (fun a s z=>z.up) fun c s z=>z) hk
  ·split at q
   ·rename_i hn
    have n:=DG hn;refine Ao (JX (ix:=AZ u) o n) fun kp hp=>?_;have q:=h1 _ _ _ _ kp q;have back:∀{τ:LS}{t s:Store},okS τ->Sub τ t->(∀a p,t a=some p->s a=some p)->(∀a p,Av V a=some p->Av ((AZ u).map (slot V)) a=aa->s a=some p)->(∀a,Dom t a->Dom (Av ((AZ u).map (slot V))) a\/Av V a=aa)->okS (wb V (AZ u) τ)/\Sub (wb V (AZ u) τ) s:=fun {τ t s} kt ht s1 s2 nw =>
     wb_ok o n kt (ht.trans s1) s2 fun a d=>nw a (by refine X1p (Cg d) fun p e=>?_;exact Bv (ht a p e))
    have xx:∀c s,FrK (Av ((AZ u).map (slot V))) (Av V) (Up fun c V'=>X c (wb V (AZ u) V')) c s->Up X c s:=fun c s z=>by
     obtain ⟨t,⟨τ,ht,kt,z⟩,s1,s2,nw⟩:=z;refine Ao (back kt ht s1 s2 nw) fun k1 hb=>?_;exact ⟨_,hb,k1,z⟩
    cases mu with
    | none =>
     refine CT.own (CallT.mono (CallT.frame hp (CallT.relab q.1)) (fun a s z=>?_) xx) hk;obtain ⟨t,⟨r,τ,e,kt,ht,z⟩,s1,s2,nw⟩:=z;refine Ao (back kt ht s1 s2 nw) fun k1 hb=>?_;subst e;exact ⟨_,hb,k1,z⟩
    | some i =>
     refine CT.own (CallT.mono (CallT.frame hp (CallT.relab (q.2 i))) (fun a s z=>?_) xx) hk;obtain ⟨t,⟨r,τ,as,e,kt,ht,nd,len,at_,z⟩,s1,s2,nw⟩:=z;refine Ao (back kt ht s1 s2 nw) fun k1 hb=>?_;subst e;obtain ⟨τ',k',y,z⟩:=Fr k1 hb nd len (fun j p hp=>by
      refine X1ppp (at_ j p hp) fun a h2 h3 h4=>?_;refine ⟨a,h2,s1 a p h3,?_⟩
      cases e:Av (wb V (AZ u) τ) a with
      | none=>rfl
      | some p' =>
       refine X1p (A7 e) fun jj Z=>?_
       rcases C0 n Z with ⟨n1,z1⟩ | ⟨p1,e1,z1⟩
       ·rcases nw a (Bv h3) with w1 | w1
        ·refine X1p (Cg w1) fun p2 e2=>?_
         refine X1p (A7 e2) fun p3 z3=>?_;refine X1pp (BH z3) fun i' e4 z4=>?_
         have:=Bf o z1 z4
         clear z4;subst this;exact (n1 (af e4)).elim
        ·rw [Au o z1] at w1;cases w1
       ·rw [Au kt z1] at h4;cases h4) z
     exact ⟨τ',y,k',z⟩
   ·exact q.elim
theorem Snd.fn{Φ:Tab}{k:Nat}{fa:Addr}{c:Aq}{rs:Rs}{nv ns:Nat}{f:FS}(T:TabOk S W k Φ)(hf:IsFn S fa c)(h:FnOk Φ c rs nv ns f):Snd S (k+1) (.ref fa) f :=
 Snd.of (fun u V K X o q=>⟨DS T hf o (h.spec _ _ _ _ q) fun ok hs z=>Dq ok hs z,fun i=>DS T hf o (h.spec _ _ _ _ q) fun ok hs z=>ret_keep ok hs z⟩)
  fun u v hv=>DS (V:=[]) T hf trivial (h.pure u v hv _ rfl) fun ok hs z=>Dq ok hs z
theorem KeyT.fn{Φ:Tab}{k:Nat}{fa:Addr}{c:Aq}{rs:Rs}{nv ns:Nat}{f:FS}{ky:AV->Option Af}(T:TabOk S W k Φ)(hf:IsFn S fa c)(h:FnOk Φ c rs nv ns f)(e:∀x p,ky x=some p->f.pure [x]=some (sp p))(x:AV)(hx:(ky x).isSome=true):KeyT S (k+1) (.ref fa) (Do ky) [x]:=by
 intro x' B V Q q;obtain rfl:=aJ.mp B
 cases hp:ky x' with
 | none=>rw [hp] at hx;cases hx
 | some p =>
  have hk:Do ky x'=p:=by unfold Do;rw [hp]
  rw [hk] at q;have h2:CallT S (k+1) (.ref fa) [x'] (Av []) (OutF fun r Z=>r=⟨[],.val (sp p)⟩) (Up CA):=DS (V:=[]) T hf trivial (h.pure [x'] _ (e x' p hp) _ rfl) fun ok hs z=>Dq ok hs z;intro N A U s O hi rl;refine dF (CallT.frame (V:=V) (fun a p e=>by cases e) h2 N A U s O hi rl) fun r s' z=>?_
  cases r with
  | error e =>
   exact iq z
  | ok fl =>
   cases fl with
   | ret v =>
    obtain ⟨av,t,st,i,ra,t',⟨r,τ,e,_,_,e'⟩,s1,s2,_⟩:=z;subst e';subst e;refine Ao (i.drop (V':=V) fun a p e=>s2 a p e rfl) fun i2 Y=>?_;exact ⟨_,V,st.trans (Y.wide fun Z h=>h.elim),i2,Rep.step Y (fun Z h=>h.elim) (fun Z h=>h.elim) ra,q⟩
   | _=>exact z.elim
end
section
end
section
variable {S:Sta}{W:Wd}
noncomputable def AV.loc?:AV->Option Addr
 | .loc a _=>some a
 | _=>aa
noncomputable def floor?(τ:LS):Option (((Addr×Addr)×Addr×List (Str×AV))×((Str×AV)×(Str×AV))×Addr×Addr×List (Af×AV)):=(fields? τ 0).bind fun f=>(two? f.2.2).bind fun p=>p.2.2.loc?.bind fun e=>(slot τ 2).obj?.bind fun g=>g.2.dict?.bind fun l=>some (f,p,e,g.1,l)
noncomputable def madeW(n:Nat)(x dx:Addr)(τ:LS)(K:KR):Prop:=match floor? τ with
 | some q=>(q.1.1.1=x/\q.1.1.2=dx/\q.1.2.1=dx/\q.2.2.2.1=q.2.2.1/\q.2.1.1.1 = "texts"/\q.2.1.2.1 = "own")/\K ⟨[],.val (.inst (Ft q.2.1.1.2 (.dict q.2.2.2.2)))⟩ ((τ.drop 3).take n)
 | aa=>False
theorem AV.loc?_out{a:AV}{x:Addr}(h:a.loc?=some x):∃i,a=.loc x i:=by
 cases a with
 | loc y i=>cases h;exact ⟨i,rfl⟩
 | _=>exact (Ak rfl h).elim
inductive MadeV(n:Nat)(x dx:Addr)(τ:LS)(K:KR):Prop
 | mk (t:AV)(e i:_)(l:List (Af×AV))(z0:slot τ 0=.at x (.inst dx))(z1:slot τ 1=.at dx (.attrs (Ft t (.loc e i))))(z2:slot τ 2=.at e (.dict l))(h:K ⟨[],.val (.inst (Ft t (.dict l)))⟩ ((τ.drop 3).take n)):MadeV n x dx τ K
theorem madeW.out{n:Nat}{x dx:Addr}{τ:LS}{K:KR}(h:madeW n x dx τ K):MadeV n x dx τ K:=by
 unfold madeW at h
 cases q:floor? τ with
 | none=>rw [q] at h;exact h.elim
 | some r =>
  rw [q] at h;refine X1pp (AG q) fun f h1 q=>?_;refine X1pp (AG q) fun p h2 q=>?_;refine X1pp (AG q) fun e h3 q=>?_;refine X1pp (AG q) fun g h4 q=>?_;refine X1pp (AG q) fun l h5 q=>?_
  cases q
  obtain ⟨⟨rfl,rfl,c1,c2,c3,c4⟩,h⟩:=h;refine Ao (fields?_out h1) fun z0 z1=>?_;dsimp only at c1 c2 c3 c4 h;refine X1p (AV.loc?_out h3) fun i e3=>?_;refine ⟨p.1.2,e,i,l,z0,?_,?_,h⟩
  ·rw [z1,c1,EU h2 c3 c4,e3]
  ·rw [obj?_out h4,c2,AObj.dict?_out h5]
noncomputable def makeW(Φ:Tab)(c:Aq)(nv ns:Nat)(avs:List AV)(V:LS)(K:KR)(X:XL):Prop :=
 avs.length+1=c.n/\∀x dx,wpSs Φ c.body (fun e τ=>X e ((τ.drop 3).take V.length)) (some (.loc x 0)::avs.map some++be nv aa) (.at x (.inst dx)::.at dx (.attrs [])::.no::V++be ns .no) (fun fl Z τ=>flV fl=.none/\madeW V.length x dx τ K)
inductive Made(n:Nat)(x dx:Addr)(K:KR)(v:AV)(s:Store):Prop
 | mk (τ:LS)(e:v=.none)(o:okS τ)(hs:Sub τ s)(h:madeW n x dx τ K):Made n x dx K v s
theorem Kx{Φ:Tab}{k:Nat}{fa:Addr}{c:Aq}{nv ns:Nat}{u:List AV}{V:LS}{K:KR}{X:XL}{x dx:Addr}(T:TabOk S W k Φ)(hf:IsFn S fa c)(o:okS (.at x (.inst dx)::.at dx (.attrs [])::.no::V))(h:makeW Φ c nv ns u V K X) :
  CallT S (k+1) (.ref fa) (.loc x 0::u) (Av (.at x (.inst dx)::.at dx (.attrs [])::.no::V)) (Made V.length x dx K) (Up fun e τ=>X e ((τ.drop 3).take V.length)):=by
 refine CallT.body hf h.1 fun F hk ht Y y1 y2=>?_
 have:=Ck T c.body _ F (ew hk.symm) Y ⟨y1,y2⟩ _ _ _ (DE (n:=ns) o) (h.2 x dx)
 rw [CZ,show (some (AV.loc x 0)::u.map some++be nv aa)=(AV.loc x 0::u).map some++be nv aa from rfl,vr_pad,Jl] at this
 refine SsT.mono this fun fl m s z=>?_;obtain ⟨m1,τ,em,hs,ok,e,z⟩:=z;refine fun N=>⟨flV fl,s,?_,τ,e,ok,hs,z⟩;show View S N (flV fl) s (flV fl) s;exact View.same
theorem Jz{V:LS}{n p:Nat}:slot (V.drop n) p=slot V (n+p):=by
 unfold slot;rw [az,az,List.getElem?_drop]
set_option tactic.hygienic true in
theorem Snd.make{Φ:Tab}{k:Nat}{fI:Addr}{c:Aq}{nv ns:Nat}{f:FS}(T:TabOk S W k Φ)(hi:gR S.K (.ref W.C) "__init__"=some (some (.ref fI)))(ht:isFn S.K (.ref fI)=true)(hf:IsFn S fI c)(hp:∀O,f.pure O=aa)(hw:f.whole=false)
  (h:∀O V K X,f.spec (Bs O 0) V K X->makeW Φ c nv ns (Bs O 3) V K X):Snd S (k+2) (.ref W.C) f:=by
 intro F hk m mu O V K X o q;unfold ownW at q;rw [hp,hw] at q;dsimp only at q
 split at q
 ·rename_i hn
  have n:=DG hn;refine Ao (JX (ix:=AZ O) o n) fun kp hps=>?_;have q:=h _ _ _ _ q;refine CT.make (k:=k+1) T.good.floor hi ht hk fun x dx nx y hne=>?_;have zx:∀{i a p},slot V i=.at a p->a≠x/\a≠dx:=fun z=>⟨fun e=>nx (e▸Bv (Au o z)),fun e=>y (e▸Bv (Au o z))⟩;have nL:∀{a p},Av ((AZ O).map (slot V)) a=some p->a≠x/\a≠dx:=fun e=>by
   refine X1p (A7 e) fun p z=>?_;refine X1pp (BH z) fun i Z z=>?_;exact zx z
  have nn:∀{a},(a=x\/a=dx)->Av ((AZ O).map (slot V)) a=aa:=fun {a} e=>by
   cases z:Av ((AZ O).map (slot V)) a with
   | none=>rfl
   | some p=>exact (e.elim (nL z).1 (nL z).2).elim
  have oI:okS (.at x (.inst dx)::.at dx (.attrs [])::.no::(AZ O).map (slot V)):=by
   refine ⟨?_,nn (.inr rfl),kp⟩;show (if x=dx then _ else Av ((AZ O).map (slot V)) x)=_;rw [if_neg hne];exact nn (.inl rfl)
  have sI:∀a p,Av (.at x (.inst dx)::.at dx (.attrs [])::.no::(AZ O).map (slot V)) a=some p->((Av V).set dx (.attrs [])).set x (.inst dx) a=some p:=fun a p e=>by
   have e:(if a=x then some (AObj.inst dx) else if a=dx then some (AObj.attrs []) else Av ((AZ O).map (slot V)) a)=some p:=e
   by_cases z:a=x
   ·rw [if_pos z] at e;rw [z,Store.set_self];exact e
   ·rw [if_neg z] at e
    rw [Store.set_ne _ _ z]
    by_cases z':a=dx
    ·rw [if_pos z'] at e;rw [z',Store.set_self];exact e
    ·rw [if_neg z'] at e
     rw [Store.set_ne _ _ z'];exact hps _ _ e
  have lab:∀{l:List AV}{Q:AV->Store->Prop}{Y:KX}{s:Store},CallT S (k+1) (.ref fI) (.loc x 0::Bs l 3) s Q Y->CallT S (k+1) (.ref fI) (.loc x 0::l) s Q Y:=fun {l Q Y s} h N A vals u room hi rl=>h N A vals u room hi (by
   refine X2lpp vals rl.inv fun v r r1 r2=>?_;exact .cons r1 (Cy r2))
  have U:∀{τ:LS}{t s:Store}{as:List Addr},okS τ->Sub τ t->(∀a p,t a=some p->s a=some p)->(∀a p,((Av V).set dx (.attrs [])).set x (.inst dx) a=some p->Av (.at x (.inst dx)::.at dx (.attrs [])::.no::(AZ O).map (slot V)) a=aa->s a=some p)->(∀a,Dom t a->Dom (Av (.at x (.inst dx)::.at dx (.attrs [])::.no::(AZ O).map (slot V))) a\/((Av V).set dx (.attrs [])).set x (.inst dx) a=aa) ->
    (∀a∈as,∃j p,j<3/\slot τ j=.at a p)->okS (wb V (AZ O) ((τ.drop 3).take ((AZ O).map (slot V)).length))/\Sub (wb V (AZ O) ((τ.drop 3).take ((AZ O).map (slot V)).length)) (s.dels as):=fun {τ t s as} kt ht s1 s2 nw has=>by
   have zt:∀{p a q},slot ((τ.drop 3).take ((AZ O).map (slot V)).length) p=.at a q->slot τ (3+p)=.at a q:=fun z=>by
    have:=(BC z).2;rw [Jz] at this;exact this
   have kt':okS ((τ.drop 3).take ((AZ O).map (slot V)).length):=Es fun i j a p q h1 h2=>by
    have:=Bf kt (zt h1) (zt h2);exact aw (lin [i,j] [] (.b V0 V1) [.d (.A K3 V0) (.A K3 V1)] rfl this) (lin [i,j] [] (.b V1 V0) [.D (-1) (.A K3 V0) (.A K3 V1)] rfl this)
   have dom1:∀{a p q},slot τ (3+p)=.at a q->Dom (Av ((AZ O).map (slot V))) a\/Av V a=aa:=fun {a p q} z=>by
    have dt:Dom t a:=Bv (ht.at kt z)
    by_cases B:a=x
    ·exact .inr (by rw [B];exact C5 nx)
    by_cases zd:a=dx
    ·exact .inr (by rw [zd];exact C5 y)
    rcases nw a dt with w1 | w1
    ·left
     refine X1p (Cg w1) fun p' e=>?_;have e:(if a=x then some (AObj.inst dx) else if a=dx then some (AObj.attrs []) else Av ((AZ O).map (slot V)) a)=some p':=e;rw [if_neg B,if_neg zd] at e;exact Bv e
    ·rw [Store.set_ne _ _ B,Store.set_ne _ _ zd] at w1;exact .inr w1
   refine wb_ok o n kt' (fun a p e=>?_) (fun a p e e'=>?_) fun a d=>?_
   ·refine X1p (A7 e) fun i z=>?_
    have z:=zt z;unfold Store.dels;rw [if_neg]
    ·exact s1 _ _ (ht.at kt z)
    ·intro q
     refine X2pp (has a q) fun j p' hj z'=>?_
     have:=Bf kt z z';exact lin [j,i] [] .no [.c V0 K3,.d (.A K3 V1) V0] rfl hj this
   ·have za:a≠x/\a≠dx:=by refine X1p (A7 e) fun i z=>?_;exact zx z
    unfold Store.dels;rw [if_neg]
    ·refine s2 a p (by rw [Store.set_ne _ _ za.1,Store.set_ne _ _ za.2];exact e) ?_
     show (if a=x then _ else if a=dx then _ else Av ((AZ O).map (slot V)) a)=_;rw [if_neg za.1,if_neg za.2];exact e'
    ·intro q
     refine X2pp (has a q) fun j p' hj z'=>?_;have dt:Dom t a:=Bv (ht.at kt z')
     rcases nw a dt with w1 | w1
     ·refine X1p (Cg w1) fun p2 e2=>?_
      have e2:(if a=x then some (AObj.inst dx) else if a=dx then some (AObj.attrs []) else Av ((AZ O).map (slot V)) a)=some p2:=e2;rw [if_neg za.1,if_neg za.2,e'] at e2;cases e2
     ·rw [Store.set_ne _ _ za.1,Store.set_ne _ _ za.2,e] at w1;cases w1
   ·refine X1p (Cg d) fun p e=>?_
    refine X1p (A7 e) fun i z=>?_;exact dom1 (zt z)
  refine CallT.mono (CallT.frame sI (lab (Kx T hf oI q))) (fun v s z=>?_) fun c s z=>?_
  ·obtain ⟨t,⟨τ,e,kt,ht,z⟩,s1,s2,nw⟩:=z
   refine ⟨e,fun N=>?_⟩;obtain ⟨tx,f',i',l,z0,z1,z2,z⟩:=z.out
   ···refine ⟨_,_,View.inst (fs':=Ft tx (.dict l)) (as:=[f']) (s1 _ _ (ht.at kt z0)) (s1 _ _ (ht.at kt z1)) (FrozeF.cons (as:=[]) (.same _) (FrozeF.cons (as:=[f']) (bs:=[]) (.dict (s1 _ _ (ht.at kt z2))) .nil)),?_⟩
      obtain ⟨k1,h1⟩:=U (as:=[x,dx,f']) kt ht s1 s2 nw (fun a ha=>by
       rcases aD.mp ha with rfl | ha
       ·exact ⟨0,_,by decide,z0⟩
       ·rcases aD.mp ha with rfl | ha
        ·exact ⟨1,_,by decide,z1⟩
        ·have:=aJ.mp ha;clear z1 ha;subst this;exact ⟨2,_,by decide,z2⟩)
      cases mu with
      | none=>exact ⟨_,h1,k1,z⟩
      | some i=>exact ⟨_,h1,k1,z⟩
  ·obtain ⟨t,⟨τ,ht,kt,z⟩,s1,s2,nw⟩:=z
   obtain ⟨k1,h1⟩:=U (as:=[]) kt ht s1 s2 nw (fun a ha=>by cases ha)
   exact ⟨_,fun a p e=>(CK (h1 a p e)).2,k1,z⟩
 ·exact q.elim
end
section
section
variable {S:Sta}
noncomputable def fnD(K:Frag)(a:Addr):Option FuncData:=match K.lookup a with
 | some ⟨_,_,.func fd,_⟩=>some fd
 | _=>aa
noncomputable def bodyD(fd:FuncData):Option (List Stmt):=match fd.body with
 | .stmts b=>some b
 | _=>aa
noncomputable def nmOk(tb:List Nat)(sc:Nms)(names:List Str):Bool:=(bt names.length).all fun j=>match names[j]? with
 | some x=>ixS tb x == some j && (sc.lookup x == some .local || sc.lookup x == some .cell)
 | aa=>true
noncomputable def fnOk(K:Frag)(c:Aq)(names:List Str)(fd:FuncData):Bool :=
 decide (fd.globals=bV) && (decide (fd.builtins=builtinsNs) && (fd.scope.kind == .function && (!fd.scope.isCoroutine && (!fd.scope.isGenerator && (codeIn K fd.code fd.qualname && (names.length == c.n && (nmOk c.tb fd.scope.names names && decide ((c7 0 fd.scope.names []).map (·.1)).Nodup)))))))
set_option tactic.hygienic true in
theorem IsFn.of{K:Frag}{a:Addr}{c:Aq}(names:List Str)(hK:S.K=K)(h1:(fnD K a).map (fun fd=>(fnOk K c names fd,fd.closure))=some (true,[]))
  (h2:(fnD K a).map (fun fd=>(bodyD fd).map fun b=>(cSs c.tb 60 fd.scope.names b).map (·.1))=some (some (some (Gw c.body)))) (h3:∀vals:List Value,vals.length=c.n->(fnD K a).map (fun fd=>bindArgs fd ⟨vals,[]⟩)=some (pure (names.zip vals))):IsFn S a c:=by
 subst hK;unfold fnD at h1 h2 h3
 split at h1
 ·rename_i cl d fd sl hl
  simp only [hl] at h2 h3;simp only [cR,d6,eE] at h1 h2 h3;refine Ao h1 fun h1 B=>?_;unfold fnOk at h1;simp only [bE,decide_eq_true_eq,beq_iff_eq,Bool.not_eq_true'] at h1;refine Ge h1 fun g1 g2 g3 g4 g5 g6 Z0=>?_;refine Bp Z0 fun g7 g8 g9=>?_
  cases hb:bodyD fd with
  | none=>rw [hb] at h2;cases h2
  | some b =>
   rw [hb] at h2;simp only [cR,d6] at h2;have U:fd.body=.stmts b:=by
    unfold bodyD at hb
    split at hb
    ·rename_i b' e;cases hb;exact e
    ·cases hb
   refine ⟨_,fd,b,names,S.X _ _ hl,rfl,U,B,g1,g2,g3,g4,g5,codeRec_of S.X g6,g7,h3,fun j x hx=>?_,g9,LA h2⟩;unfold nmOk at g8;have hj:j<names.length:=(dA.mp hx).1
   have:=cA.mp g8 j (gx.mpr hj)
   rw [hx] at this;simp only [bE,beq_iff_eq,dZ] at this;exact ⟨this.1,this.2⟩
 ·cases h1
end
noncomputable def goT(nx:SharedT->Thread->Option (SharedT×Thread))(ok:Thread->Bool):Nat->SharedT->Thread->Option SharedT
 | 0,_,_=>aa
 | n+1,s,t=>match through t with
  | true=>some s
  | false=>match ok t with
   | false=>aa
   | true=>match nx s t with
    | some (s',t')=>goT nx ok n s' t'
    | aa=>aa
theorem HO{tb:String->Option dy}{p:dw}{w:World}{E2:Nat}{y:Option Value}:∀(n:Nat)(s r:SharedT)(t:Thread),goT (stepT (denote tb) p w) (stepOk E2 y) n s t=some r->topRun tb p w E2 y n s.abs t=some r.abs
 | 0,_,_,_,h=>by cases h
 | n+1,s,r,t,h=>by
  unfold goT at h;unfold topRun
  cases ht:through t with
  | true=>rw [ht] at h;cases h;rfl
  | false =>
   rw [ht] at h
   cases hk:stepOk E2 y t with
   | false=>rw [hk] at h;cases h
   | true =>
    rw [hk] at h
    cases hs:stepT (denote tb) p w s t with
    | none=>rw [hs] at h;cases h
    | some x =>
     obtain ⟨s',t'⟩:=x;rw [hs] at h;rw [stepT_spec hs];exact HO n s' r t' h
noncomputable def treeOf:List Obj->Nat->PySem.W.BT->PySem.W.BT
 | [],_,t=>t
 | o::l,n,t=>treeOf l (n+1) (t.ins n o)
noncomputable def Jb(P:Params):PySem.W.BT:=treeOf (c9 P).objs.toList 0 .nil
noncomputable def seenT{α:Type}(H₀:Heap)(p q:dw)(Xt:ae->Bool)(Yf:ae->α)(s:ae) :=
 ((staticsOk (gc p.main.body) H₀ s.heap && namesBound p s.heap && gensDone s && laidKept H₀ s.heap),openSeen q [] (gc p.main.body) Xt true s,Yf s)
theorem left_of{p q:dw}{Xt:ae->Bool}{α:Type}{Yf:ae->α}{Ya:World->α}{N:Nat}{E2:Nat}{O:Life}{y:Option Value}(e:opening p=plainProg p.main.scope.names)(hN:Nat.ble 600 N=true)(f:∀s,fenceModules? p s=some s)
  (hT:∀P,absHeap (Jb P) E2 O=c9 P) (size:∀P,((c9 P).isNs bV,(c9 P).objs.size,(c9 P).nsMap bV "__annotations__")=(true,E2,y))
  (run:∀w:World,(fun os=>(goT (stepT (denote treeTable) p w) (stepOk E2 y) N ⟨Jb w.params,E2,O,iC [],gE,im,os⟩ (topStub p)).map fun r=>seenT (c9 w.params) p q Xt Yf r.abs)=fun Z=>some (true,openGood q [],Ya w)) :
  LeftO p q [] Xt Yf Ya N true:=fun w=>by
 obtain ⟨⟨h,gs,d,k,os⟩,e1,e2⟩:=aY.mp (boot_open e hN f w);simp only [eE] at e2;refine B0 e2 fun Z0 Z1 Z2 Z3=>?_;clear e2;subst Z0;subst Z1;subst Z2;subst Z3;have z:=size w.params;simp only [eE] at z;refine X1pp (aY.mp (congrFun (run w) os)) fun r g l=>?_;unfold seenT at l;simp only [eE] at l;have g':=HO _ _ _ _ g;have ea:SharedT.abs ⟨Jb w.params,E2,O,iC [],gE,im,os⟩=⟨c9 w.params,iC [],gE,im,os⟩:=by
  show Shared.mk _ _ _ _ _=_;rw [hT]
 rw [ea] at g';have t:topFrom treeTable p w N ⟨c9 w.params,iC [],gE,im,os⟩=some r.abs:=by
  unfold topFrom;dsimp only;rw [z.1,z.2.1,z.2.2,g'];show (match _ && _ && _ && _ with | true=>_ | false=>_)=_
  rw [l.1]
 unfold openEnds;rw [e1];show (topFrom treeTable p w N _).map _=_;rw [t];exact congrArg some (bH l.2.1 l.2.2)
noncomputable def DP(h:Heap):Frag:=(bt h.objs.size).filterMap fun a=>(h.get? a).map fun o=>(a,o)
set_option tactic.hygienic true in
theorem IW{K:Frag}{a:Addr}{o:Obj}(h:K.lookup a=some o):(a,o)∈K:=by
 induction K with
 | nil=>cases h
 | cons x K ih =>
  obtain ⟨b,o'⟩:=x;rw [cY] at h
  split at h
  ·rename_i e;cases h;rw [eq_of_beq e];exact .head _
  ·exact .tail _ (ih h)
theorem KO(h:Heap):(DP h).In h:=fun a o e=>by
 refine X1pp (gB.mp (IW e)) fun b Z hb=>?_;refine X1pp (aY.mp hb) fun o' h1 h2=>?_
 cases h2;exact h1
noncomputable def adr:Value->Addr
 | .ref a=>a
 | _=>0
noncomputable def ownV(K:Frag)(x:Str):Value:=match nsIn K bV x with
 | some (some v)=>v
 | _=>.none
structure Ent where
 a:Addr
 c:Aq
 nms:List Str
noncomputable def Ig(K:Frag)(x:Ent):=(fnD K x.a).map fun fd=>(bodyD fd).map fun b=>(cSs x.c.tb 60 fd.scope.names b).map (·.1)
noncomputable def Gb(K:Frag)(x:Ent)(v u t s:Value):=(fnD K x.a).map fun fd=>bindArgs fd ⟨[v,u,t,s].take x.c.n,[]⟩
noncomputable def D7(x:Ent)(v u t s:Value):Option (Sem (List (Str×Value))):=some (pure (x.nms.zip ([v,u,t,s].take x.c.n)))
noncomputable def entOk(K:Frag)(x:Ent):Bool:=decide (x.c.n<=4) && (fnD K x.a).any fun fd=>fnOk K x.c x.nms fd && fd.closure.isEmpty
theorem IsFn.ent{S:Sta}{x:Ent}(h1:entOk S.K x=true)(h2:Ig S.K x=some (some (some (Gw x.c.body))))(h3:Gb S.K x=D7 x):IsFn S x.a x.c:=by
 refine Ao (aU.mp h1) fun hn h1=>?_;obtain ⟨fd,h4,h5⟩:∃fd,fnD S.K x.a=some fd/\(fnOk S.K x.c x.nms fd && fd.closure.isEmpty)=true:=by
  cases e:fnD S.K x.a with
  | none=>rw [e] at h1;cases h1
  | some fd=>rw [e] at h1;exact ⟨fd,rfl,h1⟩
 refine Ao (aU.mp h5) fun h5 h6=>?_;refine IsFn.of x.nms rfl (by rw [h4,cR,h5,List.isEmpty_iff.mp h6]) h2 fun U hv=>?_
 have hn:=of_decide_eq_true hn;have key:∀v u t s,[v,u,t,s].take x.c.n=U->(fnD S.K x.a).map (fun fd=>bindArgs fd ⟨U,[]⟩)=some (pure (x.nms.zip U)):=fun v u t s e=>by
  have:=congrFun (congrFun (congrFun (congrFun h3 v) u) t) s
  unfold Gb D7 at this;rw [e] at this;exact this
 rw [<- hv] at key hn
 match U,hn with
 | [],_=>exact key .none .none .none .none rfl
 | [v],_=>exact key v .none .none .none rfl
 | [v,u],_=>exact key v u .none .none rfl
 | [v,u,t],_=>exact key v u t .none rfl
 | [v,u,t,s],_=>exact key v u t s rfl
 | _::_::_::_::_::_,h=>simp at h
end
section
noncomputable def nbL:List (Nat×Str):=[(0, "len"),(1, "isinstance"),(2, "int"),(3, "bool"),(4, "tuple"),(5, "list"),(6, "str"),(7, "dict"),(8, "range"),(9, "enumerate"),(10, "sorted"),(11, "sum"),(12, "abs"),(13, "min"),(14, "max"),(15, "all"),(16, "any"),(17, "ValueError")]
noncomputable def neL:List (Nat×Str):=[(18, "FloorError"),(19, "BadFloor"),(20, "Parted"),(21, "Holed"),(22, "NoCell"),(23, "BadLaying"),(24, "NoLaying"),(25, "NoHeights"),(26, "NoTurn"),(27, "BadText")]
structure LawD where
 nf:List (Nat×Str)
 ms:List (Nat×Str)
 es:List (Bool×Str×Aq×List Str)
 ne:List (Nat×Str)
noncomputable def LawD.no(D:LawD):List (Nat×Str):=D.ne++D.nf
section
variable (D:LawD)
noncomputable def cvK(K:Frag)(i:Nat):Value:=if i<17 then bv i else if i=17 then .type "ValueError" else match D.no.lookup i with
 | some x=>ownV K x
 | aa=>ownV K "MOST_LONG"
noncomputable def clsK(K:Frag):Addr:=adr (ownV K "Floor")
noncomputable def GM(K:Frag)(x:Str):Addr:=match gR K (.ref (clsK K)) x with
 | some (some v)=>adr v
 | _=>0
noncomputable def WK(K:Frag):Wd where
 U:=fun i=>Nat.ble i 17 || (D.no.lookup i).isSome || i == 28
 C:=clsK K
 M:=fun n=>(D.ms.lookup n).map (GM K)
noncomputable def entOf(K:Frag)(e:Bool×Str×Aq×List Str):Ent:=⟨(match e.1 with
 | true=>GM K e.2.1
 | false=>adr (ownV K e.2.1)),e.2.2.1,e.2.2.2⟩
noncomputable def Fd(K:Frag):List Ent:=D.es.map (entOf K)
noncomputable def refK(K:Frag)(x:Str):Bool:=decide (nsIn K bV x=some (some (.ref (adr (ownV K x)))))
noncomputable def floorB(K:Frag)(C:Addr):Bool:=plainGet K C "texts" && (hasDictIn K C && (decide (gR K (.ref C) "__setattr__"=some (some (.builtin "object.__setattr__"))) && (plainOver K C && makesIn K C)))
noncomputable def Ez(K:Frag)(C:Addr)(x:Str):Bool:=decide (gR K (.ref C) x=some aa) && decide (takerIn K C x=some aa)
noncomputable def GN(K:Frag)(x:Str):Bool:=decide (gR K (.ref (clsK K)) x=some (some (.ref (GM K x)))) && (isFn K (.ref (GM K x)) && keepIn K (.ref (GM K x)))
noncomputable def sixB(v:Value):Bool:=match v with
 | .int 6 _=>true
 | _=>false
structure ES(K:Frag):Prop where
 blt:∀p∈nbL,nsIn K bV p.2=some aa
 own:∀p∈D.no,nsIn K bV p.2=some (some (.ref (adr (ownV K p.2))))/\keepIn K (.ref (adr (ownV K p.2)))=true
 law:nsIn K bV "law"=some (some (.ref (adr (ownV K "law"))))
 six:nsIn K bV "MOST_LONG"=some (some (ownV K "MOST_LONG"))/\sixB (ownV K "MOST_LONG")=true
 floor:floorB K (clsK K)=true
 texts:Ez K (clsK K) "texts"=true
 cells:Ez K (clsK K) "own"=true
 init:GN K "__init__"=true
 meth:∀p∈D.ms,GN K p.2=true
 ent:∀x∈Fd D K,entOk K x=true
noncomputable def Hx(K:Frag):List Bool:=[nbL.all fun p=>decide (nsIn K bV p.2=some aa),D.no.all fun p=>refK K p.2 && keepIn K (.ref (adr (ownV K p.2))),refK K "law",decide (nsIn K bV "MOST_LONG"=some (some (ownV K "MOST_LONG"))),sixB (ownV K "MOST_LONG"),
 floorB K (clsK K),Ez K (clsK K) "texts",Ez K (clsK K) "own",GN K "__init__",D.ms.all fun p=>GN K p.2,(Fd D K).all (entOk K)]
variable {D}
theorem Kf{K:Frag}(h:Hx D K=be 11 true):ES D K:=by
 unfold Hx at h;simp only [be,List.cons.injEq,and_true,cA,bE,decide_eq_true_eq,refK] at h;refine Ge h fun h1 h2 h3 h4 h5 h8 Z0=>?_;refine X0ppppp Z0 fun h9 B Y z T=>?_;exact ⟨h1,h2,h3,⟨h4,h5⟩,h8,h9,B,Y,z,T⟩
variable (D)
noncomputable def obsK(K:Frag):=(Hx D K,(Fd D K).map (Ig K),(Fd D K).map (Gb K))
noncomputable def valK:List Bool×List (Option (Option (Option (List Mine.Internal.S))))×List (Value->Value->Value->Value->Option (Sem (List (Str×Value)))):=(be 11 true,(Fd D []).map fun x=>some (some (some (Gw x.c.body))),(Fd D []).map D7)
structure Gf(K:Frag):Prop where
 L:ES D K
 body:∀x∈Fd D K,Ig K x=some (some (some (Gw x.c.body)))
 bind:∀x∈Fd D K,Gb K x=D7 x
variable {D}
theorem start_of{K:Frag}(h:obsK D K=valK D):Gf D K:=by
 have e1:(Fd D []).map (fun x=>some (some (some (Gw x.c.body))))=(Fd D K).map fun x=>some (some (some (Gw x.c.body))):=by
  unfold Fd;rw [bc,bc];rfl
 have e2:(Fd D []).map D7=(Fd D K).map D7:=by
  unfold Fd;rw [bc,bc];rfl
 unfold obsK valK at h;rw [e1,e2] at h;simp only [eE] at h;exact ⟨Kf h.1,List.map_inj_left.mp h.2.1,List.map_inj_left.mp h.2.2⟩
noncomputable def FM(D:LawD):Hook:=⟨_,fun s=>obsK D (DP s.heap),fun Z=>valK D,fun Z h=>∃K:Frag,K.In h/\Gf D K,fun Z s e=>⟨_,KO _,start_of e⟩,fun _ _ _ ⟨K,X,s⟩ k=>⟨K,X.keeps k,s⟩⟩
structure LawD.Ok(D:LawD):Prop where
 ix:∀p∈D.nf,ixS GT p.2=some p.1
 hi:∀p∈D.nf,29<=p.1
 ne:∀p∈D.ne,p∈neL
 floor:D.no.lookup 29=some "Floor"
 mix:∀p∈D.ms,ixS AT p.2=some p.1/\p.2 ≠ "texts"/\p.2 ≠ "own"
section
variable {S:Sta}
theorem Glob.own{nm:Str}{i:Nat}{v:Value}(hi:ixS GT nm=some i)(h:nsIn S.K bV nm=some (some v)):Mine.Internal.Glob S i v:=⟨fun x hx=>.inl (by rw [BK hx hi];exact mg_of S.X S.ng h)⟩
theorem Glob.built{nm:Str}{i:Nat}{v:Value}(hi:ixS GT nm=some i)(h:nsIn S.K bV nm=some aa)(hb:S.mb nm=some v):Mine.Internal.Glob S i v:=⟨fun x hx=>.inr (by rw [BK hx hi];exact ⟨mg_none_of S.X S.ng h,hb⟩)⟩
theorem E5:∀p∈nbL++neL++[(28,bX "MOST_LONG")],ixS GT p.2=some p.1:=by decide +kernel
theorem J9:∀p∈nbL,bootBuiltins p.2=some (cvK ⟨[],[],[],[]⟩ [] p.1)/\p.2 ≠ "__name__":=by decide +kernel
set_option tactic.hygienic true in
theorem Bg{l:List (Nat×Str)}{i:Nat}{x:Str}(h:l.lookup i=some x):(i,x)∈l:=by
 induction l with
 | nil=>cases h
 | cons y l ih =>
  obtain ⟨b,o'⟩:=y;rw [cY] at h
  split at h
  ·rename_i e;cases h;rw [eq_of_beq e];exact .head _
  ·exact .tail _ (ih h)
theorem no_hi(O:D.Ok):∀p∈D.no,¬p.1<17/\¬p.1=17:=fun p hp=>by
 rcases aN.mp hp with h | h
 ·have:∀p∈neL,¬p.1<17/\¬p.1=17:=by decide +kernel
  exact this p (O.ne p h)
 ·have:=O.hi p h;exact ⟨lin [p.fst] [] (.j V0 K17) [.b K29 V0] rfl this,fun z0=>lin [p.fst] [] .no [.b K29 V0,.d V0 K17] rfl this z0⟩
theorem no_ix(O:D.Ok):∀p∈D.no,ixS GT p.2=some p.1:=fun p hp=>by
 rcases aN.mp hp with h | h
 ·exact E5 p (aX _ (aT _ (O.ne p h)))
 ·exact O.ix p h
theorem G5(O:D.Ok){K:Frag}{i:Nat}{x:Str}(h:D.no.lookup i=some x):cvK D K i=ownV K x:=by
 refine Ao (no_hi O _ (Bg h)) fun h1 h2=>?_;unfold cvK;rw [if_neg h1,if_neg h2,h]
theorem cvK_blt{K:Frag}{i:Nat}(h:i<=17):cvK D K i=cvK ⟨[],[],[],[]⟩ [] i:=by
 unfold cvK
 by_cases h1:i<17
 ·rw [if_pos h1,if_pos h1]
 ·have:i=17:=aw h (Nat.le_of_not_lt h1)
  rw [if_neg h1,if_neg h1,if_pos this,if_pos this]
theorem usD{K:Frag}{i:Nat}(h:(WK D K).U i=true):i<=17\/(∃x,D.no.lookup i=some x)\/i=28:=by
 simp only [WK,dZ,beq_iff_eq,cf] at h
 rcases h with (h | h) | h
 ·exact .inl (cq h)
 ·exact .inr (.inl h)
 ·exact .inr (.inr h)
theorem blt_at:∀i,i<=17->∃x,(i,x)∈nbL:=fun i hi=>by
 have:∀i,i<18->(nbL.lookup i).isSome=true:=by decide +kernel
 refine X1p (cf.mp (this i (Nat.lt_succ_of_le hi))) fun x hx=>?_;exact ⟨x,Bg hx⟩
theorem cv28(O:D.Ok){K:Frag}:cvK D K 28=ownV K "MOST_LONG":=by
 have:D.no.lookup 28=aa:=by
  cases h:D.no.lookup 28 with
  | none=>rfl
  | some x =>
   rcases aN.mp (Bg h) with q | q
   ·have:∀p∈neL,p.1≠28:=by decide +kernel
    exact absurd rfl (this _ (O.ne _ q))
   ·have h2:29<=28:=O.hi _ q
    exact absurd h2 (by decide)
 unfold cvK;rw [if_neg (by decide),if_neg (by decide),this]
theorem Field.of{C:Addr}{x:Str}(h:Ez S.K C x=true):Field S C x:=by
 simp only [Ez,bE,decide_eq_true_eq] at h;exact ⟨h.1,h.2⟩
theorem J1{K:Frag}{x:Str}{v:Value}(h:nsIn K bV x=some (some v)):ownV K x=v:=by unfold ownV;rw [h]
theorem globD(O:D.Ok)(L:ES D S.K)(z:∀x:Str,x ≠ "__name__"->S.mb x=bootBuiltins x){i:Nat}(h:(WK D S.K).U i=true):Mine.Internal.Glob S i (cvK D S.K i):=by
 rcases usD h with h | ⟨x,h⟩ | rfl
 ·obtain ⟨x,hx⟩:=blt_at i h
  have hb:=J9 _ hx;exact Glob.built (E5 (i,x) (aX _ (aX _ hx))) (L.blt _ hx) (by rw [z x hb.2,hb.1,cvK_blt (K:=S.K) h])
 ·have hx:=Bg h
  rw [G5 O h]
  have:=(L.own _ hx).1
  exact Glob.own (no_ix O (i,x) hx) (this.trans (congrArg (fun v=>some (some v)) (J1 this).symm))
 ·rw [cv28 O]
  exact Glob.own (E5 (28,_) (aT _ (.head _))) L.six.1
theorem ownD(O:D.Ok)(L:ES D S.K){i:Nat}(h:(WK D S.K).U i=true)(y:i≠28)(T:17<=i):Callable S (cvK D S.K i):=by
 rcases usD h with h | ⟨x,h⟩ | rfl
 ·have:i=17:=aw h T
  clear h y T;subst this;exact Callable.type _
 ·rw [G5 O h]
  have:=L.own _ (Bg h)
  refine Callable.own ?_;unfold ownV;rw [this.1];exact this.2
 ·exact absurd rfl y
theorem refD(O:D.Ok){K:Frag}(L:ES D K){i:Nat}{x:Str}(h:D.no.lookup i=some x):cvK D K i=.ref (adr (ownV K x)):=by
 rw [G5 O h];exact J1 (L.own _ (Bg h)).1
set_option tactic.hygienic true in
theorem goodD{p:dw}{loose:List Str}(O:D.Ok)(L:ES D S.K)(z:S.cv=cvK D S.K)(T:TopRead p loose S.mg S.mb S.g):Good S (WK D S.K) where
 glob:=fun i hi=>by rw [z];exact globD O L T.builtins hi
 bu:=fun i hi=>by
  show (_ || _ || _)=true;rw [Nat.ble_eq_true_of_le (cK hi)];rfl
 own:=fun i hi U y=>by rw [z];exact ownD O L hi y U
 base:=fun i hi=>by rw [z];exact if_pos hi
 six:=by
  rw [z,cv28 O]
  have:=L.six.2
  revert this
  cases ownV S.K "MOST_LONG" with
  | int n t =>
   intro h;unfold sixB at h
   split at h
   ·rename_i u e;exact ⟨u,e⟩
   ·cases h
  | _=>intro h;cases h
 floor:=by
  have h:=L.floor;simp only [floorB,bE,decide_eq_true_eq] at h;obtain ⟨h1,h2,h3,h4,h5⟩:=h;exact ⟨by rw [z];exact refD O L (i:=29) (x := "Floor") O.floor,h1,h2,h3,h4,h5⟩
 texts:=Field.of L.texts
 cells:=Field.of L.cells
 meth:=fun n f hn=>by
  have key:∀x:Str,ixS AT x=some n->x ≠ "texts"->x ≠ "own"->GN S.K x=true->GM S.K x=f->∃nm,ixS AT nm=some n/\nm ≠ "texts"/\nm ≠ "own"/\gR S.K (.ref (WK D S.K).C) nm=some (some (.ref f))/\isFn S.K (.ref f)=true/\keepIn S.K (.ref f)=true:=by
   rintro x a b c d rfl
   simp only [GN,bE,decide_eq_true_eq] at d;exact ⟨x,a,b,c,d⟩
  refine X1pp (aY.mp hn) fun x hx e=>?_;have hx:=Bg hx;refine Bp (O.mix _ hx) fun a b c=>?_;exact key x a b c (L.meth _ hx) e
theorem Kr(st:Gf D S.K){e:Bool×Str×Aq×List Str}(he:e∈D.es):IsFn S (entOf S.K e).a e.2.2.1:=by
 have hx:entOf S.K e∈Fd D S.K:=cD he;exact IsFn.ent (st.L.ent _ hx) (st.body _ hx) (st.bind _ hx)
end
end
end
section
section
variable {S:Sta}{W:Wd}{k k':Nat}
theorem Js{α:Type}{j i:Nat}{y x:α}{r:List (Nat×α)}(h:Gq ((j,y)::r) i=some x):(i=j/\x=y)\/Gq r i=some x:=by
 have h:(match cw i j with
  | true=>some y
  | false=>Gq r i)=some x:=h
 cases q:cw i j with
 | false=>rw [q] at h;exact .inr h
 | true=>rw [q] at h;cases h;exact .inl ⟨bU q,rfl⟩
noncomputable abbrev FnS(S:Sta)(W:Wd)(k i:Nat)(f:FS):Prop:=(W.U i=true/\i≠28)/\Snd S k (S.cv i) f
noncomputable abbrev MeS(S:Sta)(W:Wd)(k n:Nat)(f:FS):Prop:=∃fa,W.M n=some fa/\Snd S k (.ref fa) f
noncomputable abbrev KyS(S:Sta)(W:Wd)(k i:Nat)(f:AV->Option Af):Prop:=W.U i=true/\∃fa kf,S.cv i=.ref fa/\kf+2<=k/\∀x,(f x).isSome=true->KeyT S kf (.ref fa) (Do f) [x]
theorem Snd.up{fv:Value}{f:FS}(h:Snd S k fv f)(le:k<=k'):Snd S k' fv f:=fun F hk=>h F (aB le hk)
theorem FnS.up{i:Nat}{f:FS}(h:FnS S W k i f)(le:k<=k'):FnS S W k' i f:=⟨h.1,h.2.up le⟩
theorem MeS.up{i:Nat}{f:FS}(h:MeS S W k i f)(le:k<=k'):MeS S W k' i f:=by
 refine X1pp h fun fa h1 h2=>?_;exact ⟨fa,h1,h2.up le⟩
noncomputable def AllP{α:Type}(P:Nat->α->Prop):List (Nat×α)->Prop
 | []=>True
 | p::r=>P p.1 p.2/\AllP P r
theorem AllP.at{α:Type}{P:Nat->α->Prop}:∀{l:List (Nat×α)},AllP P l->∀{i:Nat}{x:α},Gq l i=some x->P i x
 | [],_,_,_,h=>by cases h
 | (j,y)::r,a,i,x,h=>by
  rcases Js h with ⟨rfl,rfl⟩ | h
  ·exact a.1
  ·exact a.2.at h
theorem TabOk.of{q:Bool}{ex:List Nat}{fn me:List (Nat×FS)}{ky:List (Nat×(AV->Option Af))}(G:Good S W)(hq:q=true->S.hx=aa)(hx:ex.all W.U=true)(hf:AllP (FnS S W k) fn)(hm:AllP (MeS S W k) me)(hk:AllP (KyS S W k) ky):TabOk S W k ⟨q,ex,fn,me,ky⟩ :=
 ⟨G,hq,fun i hi=>cA.mp hx i (fq.mp hi),fun i f h=>hf.at h,fun i f h=>hm.at h,fun i f h=>hk.at h⟩
end
section
variable {S:Sta}{D:LawD}{k:Nat}{Φ:Tab}{c:Aq}{rs:Rs}{nv ns:Nat}{f:FS}
theorem no_28(O:D.Ok){i:Nat}{x:Str}(h:D.no.lookup i=some x):i≠28:=by
 rintro rfl
 rcases aN.mp (Bg h) with q | q
 ·have:∀p∈neL,p.1≠28:=by decide +kernel
  exact absurd rfl (this _ (O.ne _ q))
 ·have h2:29<=28:=O.hi _ q
  exact absurd h2 (by decide)
theorem U_of{K:Frag}{i:Nat}{x:Str}(h:D.no.lookup i=some x):(WK D K).U i=true:=by
 show (Nat.ble i 17 || (D.no.lookup i).isSome || i == 28)=true;rw [h];simp
theorem FnS.of(O:D.Ok)(st:Gf D S.K)(z:S.cv=cvK D S.K){i:Nat}{nm:Str}{ps:List Str}(he:(false,nm,c,ps)∈D.es)(hl:D.no.lookup i=some nm)(h:FnOk Φ c rs nv ns f)(T:TabOk S (WK D S.K) k Φ):FnS S (WK D S.K) (k+1) i f :=
 ⟨⟨U_of hl,no_28 O hl⟩,by rw [z,refD O st.L hl];exact Snd.fn T (Kr st he) h⟩
theorem KyS.of(O:D.Ok)(st:Gf D S.K)(z:S.cv=cvK D S.K){i:Nat}{nm:Str}{ps:List Str}{ky:AV->Option Af}(he:(false,nm,c,ps)∈D.es)(hl:D.no.lookup i=some nm)(h:FnOk Φ c rs nv ns f)(e:∀x p,ky x=some p->f.pure [x]=some (sp p))(T:TabOk S (WK D S.K) k Φ):KyS S (WK D S.K) (k+3) i ky :=
 ⟨U_of hl,_,k+1,by rw [z,refD O st.L hl];rfl,ay _,KeyT.fn T (Kr st he) h e⟩
theorem MeS.of(st:Gf D S.K){n:Nat}{nm:Str}{ps:List Str}(he:(true,nm,c,ps)∈D.es)(hl:D.ms.lookup n=some nm)(h:FnOk Φ c rs nv ns f)(T:TabOk S (WK D S.K) k Φ):MeS S (WK D S.K) (k+1) n f :=
 ⟨GM S.K nm,by show (D.ms.lookup n).map _=_;rw [hl];rfl,Snd.fn T (Kr st he) h⟩
theorem FnS.make(O:D.Ok)(st:Gf D S.K)(z:S.cv=cvK D S.K){ps:List Str}(he:(true,bX "__init__",c,ps)∈D.es)(hp:∀avs,f.pure avs=aa)(hw:f.whole=false)
  (h:∀avs V K X,f.spec (Bs avs 0) V K X->makeW Φ c nv ns (Bs avs 3) V K X) (T:TabOk S (WK D S.K) k Φ):FnS S (WK D S.K) (k+2) 29 f:=by
 have hi:=st.L.init;simp only [GN,bE,decide_eq_true_eq] at hi;refine ⟨⟨U_of O.floor,by decide⟩,?_⟩
 rw [z,refD O st.L O.floor];exact Snd.make T hi.1 hi.2.1 (Kr st he) hp hw h
end
end
section
noncomputable abbrev Sp:=Int×Int
noncomputable def A2(k:Sp):List Sp:=[(k.1,k.2 - 1),(k.1 - 1,k.2),(k.1+1,k.2),(k.1,k.2+1)]
inductive Reach(P:List Sp)(a:Sp):Sp->Prop
 | refl:Reach P a a
 | step {b c:Sp}:Reach P a b->c∈A2 b->c∈P->Reach P a c
noncomputable def Comp(P:List Sp)(a:Sp)(fs:List Sp):Prop:=fs.Nodup/\∀k,k∈fs↔Reach P a k
theorem sub_length:∀{l k:List Sp},l.Nodup->(∀x∈l,x∈k)->l.length<=k.length
 | [],_,_,_=>cI _
 | x::l,k,nd,h=>by
  rw [bz] at nd;have hx:x∈k:=h x (.head _);have ih:=sub_length (k:=k.erase x) nd.2 fun y hy=>(List.mem_erase_of_ne (fun (e:y=x)=>nd.1 (by rw [<- e];exact hy))).mpr (h y (.tail _ hy))
  rw [List.length_erase_of_mem hx] at ih
  have:0<k.length:=List.length_pos_of_mem hx
  simp only [aL];exact lin [l.length,k.length - 1,k.length] [] (.b (.A V0 K1) V2) [.b V0 V1,.d (.A V1 K1) V2] rfl ih (an (lin [k.length] [] (.b K1 V0) [.c K0 V0] rfl this))
theorem same_length{l k:List Sp}(hl:l.Nodup)(hk:k.Nodup)(h:∀x,x∈l↔x∈k):l.length=k.length :=
 aw (sub_length hl fun x hx=>(h x).mp hx) (sub_length hk fun x hx=>(h x).mpr hx)
theorem Reach.mem{P:List Sp}{a k:Sp}(h:Reach P a k):k=a\/k∈P:=by
 cases h with
 | refl=>exact .inl rfl
 | step _ _ h=>exact .inr h
structure Dfs(N:Sp->Sp->Prop)(R:Sp->Prop)(a:Sp)(fs ws:List Sp):Prop where
 nd:fs.Nodup
 ha:a∈fs
 rc:∀k∈fs,R k
 wf:∀k∈ws,k∈fs
 cl:∀k∈fs,k∉ws->∀c,N k c->c∈fs
structure DfsAt(N:Sp->Sp->Prop)(R:Sp->Prop)(a:Sp)(fs ws:List Sp)(e:Sp)(r:List Sp):Prop where
 nd:fs.Nodup
 ha:a∈fs
 rc:∀k∈fs,R k
 wf:∀k∈ws,k∈fs
 he:e∈fs
 cl:∀k∈fs,k∉ws->∀c,N k c->c∈fs\/(k=e/\c∈r)
noncomputable def DX(n:Nat)(fs ws:List Sp):Nat:=2 * (n+1 - fs.length)+ws.length
section
variable {N:Sp->Sp->Prop}{R:Sp->Prop}{a e c:Sp}{fs ws r:List Sp}
theorem nodup1(a:Sp):[a].Nodup:=.cons (fun Z h=>by cases h) .nil
theorem Dfs.start(h:R a):Dfs N R a [a] [a] :=
 ⟨nodup1 a,.head _,fun k h'=>by rw [aJ.mp h'];exact h,fun k h=>h,fun k h n=>absurd h n⟩
theorem Dfs.pop(h:Dfs N R a fs (ws++[e]))(hr:∀c,N e c->c∈r):DfsAt N R a fs ws e r :=
 ⟨h.nd,h.ha,h.rc,fun k hk=>h.wf k (aX _ hk),h.wf e (aT _ (.head _)),fun k hk hn c hc=>by
  by_cases q:k=e
  ·clear h;subst q;exact .inr ⟨rfl,hr c hc⟩
  ·exact .inl (h.cl k hk (fun z=>(aN.mp z).elim hn fun z=>q (aJ.mp z)) c hc)⟩
theorem DfsAt.done(h:DfsAt N R a fs ws e []):Dfs N R a fs ws :=
 ⟨h.nd,h.ha,h.rc,h.wf,fun k hk hn c hc=>(h.cl k hk hn c hc).elim id fun q=>absurd q.2 bn⟩
theorem DfsAt.skip(h:DfsAt N R a fs ws e (c::r))(hc:N e c->c∈fs):DfsAt N R a fs ws e r :=
 ⟨h.nd,h.ha,h.rc,h.wf,h.he,fun k hk hn d hd=>by
  rcases h.cl k hk hn d hd with q | ⟨q,q'⟩
  ·exact .inl q
  ·clear h;subst q
   rcases aD.mp q' with rfl | q'
   ·exact .inl (hc hd)
   ·exact .inr ⟨rfl,q'⟩⟩
theorem DfsAt.push(h:DfsAt N R a fs ws e (c::r))(hc:R c)(hn:c∉fs):DfsAt N R a (fs++[c]) (ws++[c]) e r:=by
 refine ⟨?_,aX _ h.ha,fun k hk=>?_,fun k hk=>?_,aX _ h.he,fun k hk hw d hd=>?_⟩
 ·rw [bF]
  exact ⟨h.nd,nodup1 c,fun x hx y hy z=>hn (aJ.mp hy▸z▸hx)⟩
 ·rcases aN.mp hk with q | q
  ·exact h.rc k q
  ·rw [aJ.mp q];exact hc
 ·exact aN.mpr ((aN.mp hk).imp (h.wf k) id)
 ·rcases aN.mp hk with q | q
  ·rcases h.cl k q (fun z=>hw (aX _ z)) d hd with z | ⟨z,z'⟩
   ·exact .inl (aX _ z)
   ·exact (aD.mp z').elim (fun y=>.inl (aT _ (y▸.head _))) fun y=>.inr ⟨z,y⟩
  ·exact absurd (aT _ q) hw
theorem DW{n:Nat}(h:(fs++[c]).length<=n+1):DX n (fs++[c]) (ws++[c])<=DX n fs ws:=by
 unfold DX;rw [ao,bW] at h ⊢;rw [ao,bW];exact lin [n,fs.length,n+1 - fs.length,n+1 - (fs.length+1),ws.length] [] (.b (.A (.M 2 V3) (.A V4 K1)) (.A (.M 2 V2) V4)) [.B 2 (.A V0 K1) (.A V1 V2),.D 2 (.A V3 (.A V1 K1)) (.A V0 K1)] rfl (aq.mp (ay ((n+1) - (fs.length)))) (an (lin [fs.length,n] [] (.b (.A V0 K1) (.A V1 K1)) [.b (.A V0 K1) (.A V1 K1)] rfl h))
end
noncomputable def nearN(P:List Sp)(k c:Sp):Prop:=c∈A2 k/\c∈P
theorem JC{P:List Sp}{a:Sp}{fs:List Sp}(nd:fs.Nodup)(rc:∀k∈fs,Reach P a k):fs.length<=P.length+1 :=
 sub_length (k:=a::P) nd fun k hk=>by rcases (rc k hk).mem with q | q<;>simp [q]
theorem Dfs.end_{P:List Sp}{a:Sp}{fs:List Sp}(h:Dfs (nearN P) (Reach P a) a fs []):Comp P a fs :=
 ⟨h.nd,fun k=>⟨h.rc k,fun r=>by
  induction r with
  | refl=>exact h.ha
  | step _ hn hp ih=>exact h.cl _ ih bn _ ⟨hn,hp⟩⟩⟩
inductive Near(x y:Int):Sp->Prop
 | u:Near x y (x,y - 1)
 | l:Near x y (x - 1,y)
 | r:Near x y (x+1,y)
 | d:Near x y (x,y+1)
theorem E3{x y:Int}{b:Sp}(h:b∈A2 (x,y)):Near x y b:=by
 cases h with
 | head=>exact .u
 | tail _ h =>
  cases h with
  | head=>exact .l
  | tail _ h =>
   cases h with
   | head=>exact .r
   | tail _ h =>
    cases h with
    | head=>exact .d
    | tail _ h=>cases h
theorem AW{x y:Int}{b:Sp}(h:Near x y b):b∈A2 (x,y):=by
 cases h with
 | u=>exact .head _
 | l=>exact .tail _ (.head _)
 | r=>exact .tail _ (.tail _ (.head _))
 | d=>exact .tail _ (.tail _ (.tail _ (.head _)))
theorem Bu{a b:Sp}(h:b∈A2 a):a∈A2 b:=by
 cases E3 h with
 | u=>refine AW ?_;have:=Near.d (x:=a.1) (y:=a.2 - 1);rwa [bj] at this
 | l=>refine AW ?_;have:=Near.r (x:=a.1 - 1) (y:=a.2);rwa [bj] at this
 | r=>refine AW ?_;have:=Near.l (x:=a.1+1) (y:=a.2);rwa [bI] at this
 | d=>refine AW ?_;have:=Near.u (x:=a.1) (y:=a.2+1);rwa [bI] at this
end
section
noncomputable def HF(s:List Sp)(k:Sp):List Sp:=if k∈s then s else s++[k]
theorem HE{s:List Sp}{k x:Sp}:x∈HF s k↔x∈s\/x=k:=by
 unfold HF
 by_cases h:k∈s
 ·rw [if_pos h];exact ⟨.inl,fun q=>q.elim id fun e=>e▸h⟩
 ·rw [if_neg h,aN,aJ]
section
variable (nb:Sp->List Sp)(col:Sp->Bool)
variable {nb col}
end
end
section
noncomputable def dark(k:Sp):Bool:=(k.1+k.2).fmod 2 == 0
noncomputable def nbP(P:List Sp)(a:Sp):List Sp:=if a∈P then (A2 a).filter (fun c=>decide (c∈P)) else []
theorem nbP_mem{P:List Sp}{a b:Sp}:b∈nbP P a↔a∈P/\b∈A2 a/\b∈P:=by
 unfold nbP
 by_cases h:a∈P
 ·rw [if_pos h,dD,decide_eq_true_eq]
  exact ⟨fun q=>⟨h,q⟩,fun q=>q.2⟩
 ·rw [if_neg h]
  exact ⟨fun q=>(bn q).elim,fun q=>(h q.1).elim⟩
theorem Lm{s:Int}{b:Bool}(h:(s.fmod 2 == 0)=b):((s+1).fmod 2 == 0)=!b/\((s - 1).fmod 2 == 0)=!b:=by
 rw [dv _ (by decide)] at h ⊢
 rw [dv _ (by decide)]
 cases b with
 | true =>
  have:=eq_of_beq h
  exact ⟨beq_eq_false_iff_ne.mpr (by omega),beq_eq_false_iff_ne.mpr (by omega)⟩
 | false =>
  have:=beq_eq_false_iff_ne.mp h
  exact ⟨beq_iff_eq.mpr (by omega),beq_iff_eq.mpr (by omega)⟩
theorem BW{a b:Sp}(h:b∈A2 a):dark b=!(dark a):=by
 refine Ao (Lm (s:=a.1+a.2) (b:=dark a) rfl) fun d1 d2=>?_
 cases E3 h with
 | u=>rw [<- d2];show ((a.1+(a.2 - 1)).fmod 2 == 0)=_;rw [<- Int.add_sub_assoc]
 | l=>rw [<- d2];show ((a.1 - 1+a.2).fmod 2 == 0)=_;rw [show a.1 - 1+a.2=a.1+a.2 - 1 by exact ah (lin [] [a.fst,a.snd] (.f (.A (.S V0 K1) V1) (.S (.A V0 V1) K1)) [] rfl) (lin [] [a.fst,a.snd] (.f (.S (.A V0 V1) K1) (.A (.S V0 K1) V1)) [] rfl)]
 | r=>rw [<- d1];show ((a.1+1+a.2).fmod 2 == 0)=_;rw [show a.1+1+a.2=a.1+a.2+1 by exact ah (lin [] [a.fst,a.snd] (.f (.A (.A V0 K1) V1) (.A (.A V0 V1) K1)) [] rfl) (lin [] [a.fst,a.snd] (.f (.A (.A V0 V1) K1) (.A (.A V0 K1) V1)) [] rfl)]
 | d=>rw [<- d1];show ((a.1+(a.2+1)).fmod 2 == 0)=_;rw [<- dH]
theorem En{s:List Sp}{k:Sp}(n:s.Nodup)(h:k∉s):(s++[k]).Nodup:=by
 rw [bF];exact ⟨n,bz.mpr ⟨bn,fm⟩,fun a ha b hb e=>h (by rw [<- aJ.mp hb,<- e];exact ha)⟩
noncomputable def Hs(a b:Sp):Bool:=if a.2=b.2 then decide (a.1<b.1) else decide (a.2<b.2)
theorem ordB_iff{a b:Sp}:Hs a b=true↔a.2<b.2\/(a.2=b.2/\a.1<b.1):=by
 unfold Hs
 by_cases h:a.2=b.2
 ·rw [if_pos h,decide_eq_true_eq];exact ⟨fun z0=>.inr (⟨ah (lin [] [a.snd,b.snd] (.f V0 V1) [.h V0 V1] rfl h) (lin [] [a.snd,b.snd] (.f V1 V0) [.H (-1) V0 V1] rfl h),lin [] [a.fst,b.fst] (.g V0 V1) [.g V0 V1] rfl z0⟩),fun z0=>z0.elim (fun z1=>lin [] [a.snd,b.snd,a.fst,b.fst] (.G 0 V2 V3) [.H (-1) V0 V1,.g V0 V1] rfl h z1) (fun z1=>lin [] [a.fst,b.fst] (.g V0 V1) [.g V0 V1] rfl z1.2)⟩
 ·rw [if_neg h,decide_eq_true_eq];exact ⟨fun z0=>.inl (lin [] [a.snd,b.snd] (.g V0 V1) [.g V0 V1] rfl z0),fun z0=>(aQ h).elim (fun z1=>lin [] [a.snd,b.snd] (.g V0 V1) [.g V0 V1] rfl z1) (fun z1=>z0.elim (fun z2=>lin [] [a.snd,b.snd] (.g V0 V1) [.g V0 V1] rfl z2) (fun z2=>lin [] [b.snd,a.snd] (.G 0 V1 V0) [.g V0 V1,.h V1 V0] rfl z1 z2.1))⟩
noncomputable def BX(l:List (Sp×Sp)):List Sp:=l.flatMap fun q=>[q.1,q.2]
theorem FF{a b:Sp}(h:Hs a b=true):Hs b a≠true:=fun h'=>by
 have h:=ordB_iff.mp h;have h':=ordB_iff.mp h';exact h.elim (fun z0=>h'.elim (fun z1=>lin [] [a.snd,b.snd] .no [.g V0 V1,.g V1 V0] rfl z0 z1) (fun z1=>lin [] [a.snd,b.snd] .no [.g V0 V1,.h V1 V0] rfl z0 z1.1)) (fun z0=>h'.elim (fun z1=>lin [] [a.snd,b.snd] .no [.h V0 V1,.g V1 V0] rfl z0.1 z1) (fun z1=>lin [] [a.fst,b.fst] .no [.g V0 V1,.g V1 V0] rfl z0.2 z1.2))
theorem ordB_tot{a b:Sp}(h:a≠b):Hs a b=true\/Hs b a=true:=by
 rw [ordB_iff,ordB_iff]
 have:a.1≠b.1\/a.2≠b.2:=cU fun q=>h (bH (cU fun z=>q (.inl z)) (cU fun z=>q (.inr z)))
 omega
theorem F0{m:Sp->Sp}:∀{l:List Sp},l.Nodup->(∀a∈l,Hs a (m a)=true/\m (m a)=a)->(BX (l.map fun c=>(c,m c))).Nodup
 | [],_,_=>.nil
 | a::l,nd,h=>by
  rw [bz] at nd;refine Ao (h a (.head _)) fun h1 h2=>?_;have ih:=F0 nd.2 fun b hb=>h b (.tail _ hb);show ([a,m a]++BX (l.map fun c=>(c,m c))).Nodup;have ne:a≠m a:=fun e=>by have:=ordB_iff.mp h1;rw [<- e] at this;exact this.elim (fun z0=>lin [] [a.snd] .no [.g V0 V0] rfl z0) (fun z0=>lin [] [a.fst] .no [.g V0 V0] rfl z0.2)
  have key:∀x,x=a\/x=m a->∀b∈l,x=b\/x=m b->False:=fun x hx b hb hy=>by
   refine Ao (h b (.tail _ hb)) fun b1 b2=>?_;have ab:a≠b:=fun e=>nd.1 (e▸hb)
   rcases hx with rfl | rfl<;>rcases hy with e | e
   ·exact ab e
   ·rw [e,b2] at h1;exact FF h1 b1
   ·rw [<- e,h2] at b1;exact FF h1 b1
   ·exact ab (by rw [<- h2,e,b2])
  refine bF.mpr ⟨bz.mpr ⟨fun q=>ne (aJ.mp q),bz.mpr ⟨bn,fm⟩⟩,ih,fun x hx y hy e=>?_⟩;subst e;refine X1pp (eA.mp hy) fun q hq hy=>?_;obtain ⟨b,hb,rfl⟩:=aZ.mp hq;refine key x ?_ b hb ?_
  ·rcases aD.mp hx with z | z
   ·exact .inl z
   ·exact .inr (aJ.mp z)
  ·rcases aD.mp hy with z | z
   ·exact .inl z
   ·exact .inr (aJ.mp z)
end
section
set_option tactic.hygienic true in
theorem HQ{α:Type}{g:α->AV}{q:Bool}{p:Pat}{body:M->LS->KS->Prop}{ok:Option Nat}{K:KS}(J:List α->List α->M->LS->Prop)(he:∀d m V,J d [] m V->K .next m V)
  (hs:∀d x r m V,J d (x::r) m V->∀C:M->LS->Prop,(∀As Ab,J (d++[x]) r As Ab->C As Ab)->patW q p (g x) m (fun Am=>body Am V (Ex ok V C K))):∀{r d:List α}{m:M}{V:LS},J d r m V->I2 q p body ok K (r.map g) m V
 | [],d,m,V,h=>he d m V h
 | x::r,d,m,V,h=>hs d x r m V h (I2 q p body ok K (r.map g)) fun As Ab h=>HQ J he hs h
set_option tactic.hygienic true in
theorem AQ{α:Type}{g:α->AV}{q:Bool}{p:Pat}{body:M->LS->KS->Prop}{ok:Option Nat}{K:KS}{items:List AV}{r d:List α}{m:M}{V:LS}(e:items=r.map g)(J:List α->List α->M->LS->Prop)(he:∀d m V,J d [] m V->K .next m V)
  (hs:∀d x r m V,J d (x::r) m V->∀C:M->LS->Prop,(∀As Ab,J (d++[x]) r As Ab->C As Ab)->patW q p (g x) m (fun Am=>body Am V (Ex ok V C K))) (h:J d r m V):I2 q p body ok K items m V:=by
 rw [e];exact HQ J he hs h
theorem ifT{b:Bool}{A B:Prop}(e:b=true)(h:A):ifW b A B:=by subst e;exact h
theorem ifF{b:Bool}{A B:Prop}(e:b=false)(h:B):ifW b A B:=by subst e;exact h
theorem ifB{b:Bool}{A B:Prop}(h:b=true->A)(h':b=false->B):ifW b A B:=by
 cases b with
 | true=>exact h rfl
 | false=>exact h' rfl
noncomputable def tt(l:List Af):List (Af×AV):=l.map fun p=>(p,.bool true)
theorem Cq(l:List Af)(k:Af):(Bq (tt l) k).isSome=decide (k∈l):=by
 unfold Bq tt;rw [Option.isSome_map]
 induction l with
 | nil=>rfl
 | cons x r ih =>
  rw [bm,dC]
  by_cases e:x=k
  ·clear ih;subst e;simp
  ·have:decide (x=k)=false:=decide_eq_false e
   simp only [this];rw [ih];simp [fJ e]
theorem in_tt{P:List Af}{k:Af}{V:LS}:InV V (sp k) (.dict (tt P)) (decide (k∈P)):=Cq P k
theorem in_ttl{P:List Af}{k:Af}{V:LS}{a:Addr}{i:Nat}(e:slot V i=.at a (.dict (tt P))):InV V (sp k) (.loc a i) (decide (k∈P)):=by
 unfold InV;simp only [e];exact ⟨trivial,Cq P k⟩
theorem G0{l:List Af}{k:Af}(h:k∉l):Bo (tt l) k (.bool true)=tt (l++[k]):=by
 unfold Bo;rw [Cq,decide_eq_false h,if_neg (by decide)]
 unfold tt;rw [aP];rfl
theorem BO(l:List Af):(tt l).length=l.length:=by unfold tt;rw [aj]
end
section
noncomputable def c_near:Aq:=⟨[1079135020893454991476,121,122],1,[.assign (.tup [(.v 1),(.v 2)]) (.v 0),.ret (.list [(.tup [(.v 1),(.bin .Sub (.v 2) (.int 1))]),(.tup [(.bin .Sub (.v 1) (.int 1)),(.v 2)]),(.tup [(.bin .Add (.v 1) (.int 1)),(.v 2)]),(.tup [(.v 1),(.bin .Add (.v 2) (.int 1))])])]⟩
noncomputable def c_spread:Aq:=⟨[2263110204230247865775030375,940784431544538234996,1953625148292055806928486503,8847346042641382399987775315101205135480,1079135020893454991476],2,[.assign (.v 2) (.mu 4 (.dict [(.v 0)] [(.bool true)])),.assign (.v 3) (.mu 5 (.list [(.v 0)])),.while_ (.cmp .Gt (.call (.g 0) [(.v 3)]) (.int 0)) [.for_ (.v 4) (.call (.g 34) [(.meth (.v 3) 1 [])]) [.ite (.and [(.cmp .In (.v 4) (.v 1)),(.cmp .NotIn (.v 4) (.v 2))]) [.setitem (.v 2) (.v 4) (.bool true),.expr (.meth (.v 3) 0 [(.v 4)])] []]],.ret (.v 2)]⟩
noncomputable def spot1?(avs:List AV):Option Af:=(one? avs).bind spot?
theorem spot1?_out{u:List AV}{k:Af}(h:spot1? u=some k):u=[sp k]:=by
 refine X1pp (AG h) fun a h1 h=>?_;rw [one?_out h1,spot?_out h]
noncomputable def Lb:FS:=⟨fun avs=>(spot1? avs).bind fun k=>some (.list ((A2 k).map sp)),fun Z Z Z Z=>False,false⟩
theorem near_ok{ex:List Nat}:FnOk ⟨true,ex,[],[],[]⟩ c_near .val 2 0 Lb:=by
 refine ⟨fun Z Z Z Z h=>h.elim,fun u v h K hK=>?_⟩;obtain ⟨k,h1,h⟩:=AG h
 cases h
 obtain rfl:=spot1?_out h1;exact ⟨rfl,hK⟩
theorem DL{n:Nat}(h:n<=10000):n<=big:=aB h (by decide)
theorem Dfs.len{k:Nat}{fs ws:List Sp}{n:Nat}(h:DX k fs ws<=n):ws.length<=n:=by unfold DX at h;exact lin [k+1 - fs.length,ws.length,n] [] (.b V1 V2) [.b (.A (.M 2 V0) V1) V2] rfl h
noncomputable def spM(p:Af)(v:AV)(a1 a2:Addr)(x:Option AV):M:=[some (sp p),some v,some (.loc a1 4),some (.loc a2 5),x]
noncomputable def spS(b0:Slot)(a1 a2:Addr)(F:List (Af×AV))(W:List AV)(tl:LS):LS:=b0::.no::.no::.no::.at a1 (.dict F)::.at a2 (.list W)::tl
inductive SpJ(P:List Af)(p:Af)(v:AV)(a1 a2:Addr)(b0:Slot)(tl:LS):Nat->M->LS->Prop
 | mk (fs ws:List Af)(x:Option AV)(F:List (Af×AV))(W:List AV)(hd:Dfs (nearN P) (Reach P p) p fs ws)(hM:DX P.length fs ws<=2 * (P.length+1)+1)(eF:F=tt fs)(eW:W=ws.map sp):SpJ P p v a1 a2 b0 tl (DX P.length fs ws) (spM p v a1 a2 x) (spS b0 a1 a2 F W tl)
inductive SpI(P:List Af)(p:Af)(v:AV)(a1 a2:Addr)(b0:Slot)(tl:LS)(e:Af)(n:Nat)(d r:List Af):M->LS->Prop
 | mk (fs ws:List Af)(x:Option AV)(F:List (Af×AV))(W:List AV)(hd:DfsAt (nearN P) (Reach P p) p fs ws e r)(hM:DX P.length fs ws<n)(hr:∀c∈r,c∈A2 e)(eF:F=tt fs)(eW:W=ws.map sp):SpI P p v a1 a2 b0 tl e n d r (spM p v a1 a2 x) (spS b0 a1 a2 F W tl)
theorem Gx{ex:List Nat}{p e c:Af}{P d r:List Af}{v:AV}{b0:Slot}{tl:LS}{X:XL}{KK:KS}{a1 a2:Addr}{n:Nat}{m:M}{V:LS}(hP:P.length<=1000)(hn:n<=2 * (P.length+1)+1)(Y:∀(k:Af)(τ:LS),InV (b0::τ) (sp k) v (decide (k∈P)))
  (j:SpI P p v a1 a2 b0 tl e n d (c::r) m V) (C:M->LS->Prop) (hC:∀As Ab,SpI P p v a1 a2 b0 tl e n (d++[c]) r As Ab->C As Ab) :
  patW true (.v 4) (sp c) m (fun Am=>wpSs ⟨true,ex,[(34,Lb)],[],[]⟩ [.ite (.and [(.cmp .In (.v 4) (.v 1)),(.cmp .NotIn (.v 4) (.v 2))]) [.setitem (.v 2) (.v 4) (.bool true),.expr (.meth (.v 3) 0 [(.v 4)])] []] X Am V (Ex aa V C KK)):=by
 cases j with
 | mk fs ws x F W hd hM hr eF eW =>
  have u:∀c∈r,c∈A2 e:=fun c z=>hr c (.tail _ z)
  by_cases h1:c∈P
  ·refine ⟨_,Y c _,ifT (decide_eq_true h1) ⟨_,⟨rfl,by rw [eF];exact Cq fs c⟩,?_⟩⟩
   by_cases h2:c∈fs
   ·rw [decide_eq_true h2]
    exact hC _ _ (.mk fs ws _ F W (hd.skip fun Z=>h2) hM u eF eW)
   ·rw [decide_eq_false h2]
    have hf:=JC hd.nd hd.rc;have hw:=Dfs.len (aB (cK hM) hn);refine ⟨rfl,by rw [eF,BO];exact DL (by exact lin [P.length,fs.length] [] (.b V1 Gl) [.b V0 AE,.b V1 (.A V0 K1)] rfl hP hf),rfl,rfl,by rw [eW,aj];exact DL (by exact lin [P.length,ws.length] [] (.b V1 Gl) [.B 2 V0 AE,.b V1 (.A (.M 2 (.A V0 K1)) K1)] rfl hP hw),?_⟩
    have pu:=hd.push (.step (hd.rc e hd.he) (hr c (.head _)) h1) h2;exact hC _ _ (.mk (fs++[c]) (ws++[c]) _ _ _ pu (cW (DW (JC pu.nd pu.rc)) hM) u (by rw [eF,G0 h2]) (by rw [eW,aP];rfl))
  ·refine ⟨_,Y c _,ifF (decide_eq_false h1) ?_⟩
   exact hC _ _ (.mk fs ws _ F W (hd.skip fun q=>absurd q.2 h1) hM u eF eW)
theorem Dy{ex:List Nat}{p:Af}{P:List Af}{v:AV}{b0:Slot}{tl:LS}{X:XL}{KK:KS}(hP:P.length<=1000)(Y:∀(k:Af)(τ:LS),InV (b0::τ) (sp k) v (decide (k∈P)))
  (hK:∀fs a1 a2 m,Comp P p fs->KK (.ret (.loc a1 4)) m (b0::.no::.no::.no::.at a1 (.dict (tt fs))::.at a2 (.list [])::tl)) :
  wpSs ⟨true,ex,[(34,Lb)],[],[]⟩ c_spread.body X [some (sp p),some v,aa,aa,aa] (b0::.no::.no::.no::.no::.no::tl) KK:=by
 intro a1 a2;refine ⟨SpJ P p v a1 a2 b0 tl,⟨_,.mk [p] [p] _ _ _ (Dfs.start .refl) (by unfold DX;rw [bW];exact lin [P.length+1 - 1,P.length] [] (.b (.A (.M 2 V0) K1) (.A (.M 2 (.A V1 K1)) K1)) [.B 2 V0 (.A V1 K1)] rfl (eQ (P.length+1) (1))) rfl rfl⟩,fun n m V j=>?_⟩
 cases j with
 | mk fs ws x F W hd hM eF eW =>
  have O:W.length<=big:=by rw [eW,aj];exact DL (aB (Dfs.len hM) (by exact lin [P.length] [] (.b (.A (.M 2 (.A V0 K1)) K1) Gl) [.B 2 V0 AE] rfl hP))
  refine ⟨rfl,O,?_⟩
  rcases fu ws with rfl | ⟨w,e,rfl⟩
  ·subst eF;clear O;subst eW
   exact hK fs a1 a2 _ hd.end_
  ·rw [cV] at hd hM ⊢
   rw [cV,aP] at eW;have l1:(w++[e]).length=w.length+1:=ao;refine ifT (decide_eq_true (by rw [eW,ao];exact iv.mpr (gj _))) ⟨rfl,rfl,O,sp e,by rw [eW];exact fS,?_⟩
   refine AQ (g:=sp) rfl (SpI P p v a1 a2 b0 tl e (DX P.length fs (w++[e]))) (fun d m τ j=>?_) (fun d c r m τ j C hC=>Gx hP hM Y j C hC) (d:=[]) (.mk fs w _ _ _ (hd.pop fun c z=>z.1) (by unfold DX;rw [l1];exact lin [P.length+1 - fs.length,w.length] [] (.c (.A (.M 2 V0) V1) (.A (.M 2 V0) (.A V1 K1))) [] rfl) (fun Z z=>z) eF (by rw [eW];exact fT))
   cases j with
   | mk fs' T x' F' W' U u _ eF' y=>exact ⟨_,u,.mk fs' T _ _ _ U.done (aB (cK u) hM) eF' y⟩
inductive Ik(avs:List AV)(V:LS)(K:KR):Prop
 | mk (p:_)(P:List Sp)(c0:P.length<=1000)(c1:((avs=[sp p,.dict (tt P)]/\V=[]/\∀fs,Comp P p fs->K ⟨[.dict (tt fs)],.new 0⟩ [])\/∃a,avs=[sp p,.loc a 0]/\V=[.at a (.dict (tt P))]/\∀fs,Comp P p fs->K ⟨[.dict (tt fs)],.new 0⟩ [.at a (.dict (tt P))])):Ik avs V K
noncomputable def KZ:FS:=⟨fun Z=>aa,fun avs V K X=>Ik avs V K,false⟩
theorem Jx{ex:List Nat}:FnOk ⟨true,ex,[(34,Lb)],[],[]⟩ c_spread .new 3 6 KZ:=by
 refine ⟨fun u V K X h=>?_,fun u v h K hK=>by cases h⟩
 obtain ⟨p,P,hP,⟨rfl,rfl,hK⟩ | ⟨a,rfl,rfl,hK⟩⟩:=h
 ·exact ⟨rfl,Dy hP (fun k τ=>in_tt) fun fs a1 a2 m h=>⟨rfl,hK fs h⟩⟩
 ·exact ⟨rfl,Dy hP (fun k τ=>in_ttl rfl) fun fs a1 a2 m h=>⟨rfl,hK fs h⟩⟩
end
section
noncomputable def Nice(d:Nat)(a:AV):Prop:=∃p,Gm a=some p/\p.canLay0=true/\p.depth<=d
theorem Nice.eq{d:Nat}{a:AV}(h:Nice d a)(le:d<=64):EqP a a true:=by
 refine X1ppp h fun p h1 h2 h3=>?_;have s:dE p=true:=by
  unfold dE;rw [h2,decide_eq_true (aB h3 le)];rfl
 exact .py ⟨p,p,h1,h1,s,s,PySem.SeqAt.eqv_refl p h2⟩
theorem Nice.all{d:Nat}:∀{l:List AV},(∀x∈l,Nice d x)->∃ps,Dn l=some ps/\ct ps=true/\ce ps<=d
 | [],_=>⟨[],rfl,by simp [ct],by simp [ce]⟩
 | x::l,h=>by
  refine X1ppp (h x (.head _)) fun p h1 h2 h3=>?_;refine X1ppp (Nice.all fun y hy=>h y (.tail _ hy)) fun ps q1 q2 q3=>?_;refine ⟨p::ps,?_,?_,?_⟩
  ·show (Gm x).bind _=_
   rw [h1,q1];rfl
  ·rw [ct,h2,q2];rfl
  ·rw [ce];exact Nat.max_le.mpr ⟨h3,q3⟩
theorem Nice.list{d:Nat}{l:List AV}(h:∀x∈l,Nice d x):Nice (d+1) (.list l):=by
 refine X1ppp (Nice.all h) fun ps q1 q2 q3=>?_;refine ⟨.list ps,?_,?_,?_⟩
 ·show (Dn l).map _=_
  rw [q1];rfl
 ·rw [fo];exact q2
 ·rw [iw];exact lin [ce ps,d] [] (.b (.A V0 K1) (.A V1 K1)) [.b V0 V1] rfl q3
theorem Nice.tup{d:Nat}{l:List AV}(h:∀x∈l,Nice d x):Nice (d+1) (.tup l):=by
 refine X1ppp (Nice.all h) fun ps q1 q2 q3=>?_;refine ⟨.tuple ps,?_,?_,?_⟩
 ·show (Dn l).map _=_
  rw [q1];rfl
 ·rw [fo];exact q2
 ·rw [iw];exact lin [ce ps,d] [] (.b (.A V0 K1) (.A V1 K1)) [.b V0 V1] rfl q3
theorem Nice.int(i:Int):Nice 0 (.int i):=⟨.int i,rfl,by simp [fo],by simp [iw]⟩
theorem Nice.sp(k:Af):Nice 1 (sp k):=Nice.tup fun x hx=>by
 rcases aD.mp hx with rfl | hx
 ·exact Nice.int _
 ·rw [aJ.mp hx];exact Nice.int _
theorem Nice.spots(P:List Af):Nice 2 (.list (P.map Mine.Internal.sp)):=Nice.list fun x hx=>by
 refine X1pp (aZ.mp hx) fun k Z Z0=>?_;clear hx;subst Z0;exact Nice.sp k
noncomputable def Em(k:Af):dX:=.tuple [.int k.1,.int k.2]
theorem HW(a b:Af):eN (Em a) (Em b)=decide (a=b):=by
 obtain ⟨a1,a2⟩:=a;obtain ⟨b1,b2⟩:=b;have e:∀x y:Int,(x == y)=decide (x=y):=fun Z Z=>rfl;simp [Em,eN,PyData.eqvAll,Prod.ext_iff,e]
theorem any_sp(P:List Af)(k:Af):((P.map Em).any fun y=>eN y (Em k))=decide (k∈P):=by
 induction P with
 | nil=>rfl
 | cons a P ih =>
  rw [bm,fK,HW,ih]
  by_cases e:a=k
  ·clear ih;subst e;simp
  ·simp [e,fJ e]
theorem Hf(P:List Af):Dn (P.map sp)=some (P.map Em):=by
 induction P with
 | nil=>rfl
 | cons k P ih=>show (Gm (sp k)).bind _=_;rw [ih];rfl
theorem lay_sp(P:List Af):ct (P.map Em)=true:=by
 induction P with
 | nil=>rfl
 | cons k P ih=>rw [bm,ct,ih];simp [Em,fo,ct]
theorem InP.spots(P:List Af)(k:Af):InP (sp k) (.list (P.map sp)) (decide (k∈P)) :=
 ⟨Em k,P.map Em,rfl,.inl (by show (Dn _).map _=_;rw [Hf];rfl),lay_sp P,by simp [Em,fo,ct],by simp [Em,iw,ce],any_sp P k⟩
end
section
noncomputable def Lx:Aq:=⟨[2011653587633505230741569653],1,[.ret (.and [(.call (.g 1) [(.v 0),(.g 2)]),(.not (.call (.g 1) [(.v 0),(.g 3)]))])]⟩
noncomputable def c_spot:Aq:=⟨[2011653587633505230741569653],1,[.ret (.and [(.call (.g 1) [(.v 0),(.g 4)]),(.cmp .Eq (.call (.g 0) [(.v 0)]) (.int 2)),(.call (.g 30) [(.sub (.v 0) (.int 0))]),(.call (.g 30) [(.sub (.v 0) (.int 1))])])]⟩
noncomputable def EH:Aq:=⟨[1079135020893454991476],1,[.ret (.tup [(.sub (.v 0) (.int 1)),(.sub (.v 0) (.int 0))])]⟩
noncomputable def F7:Aq:=⟨[1005348031404454183012],1,[.ret (.cmp .Eq (.bin .Mod (.bin .Add (.sub (.v 0) (.int 0)) (.sub (.v 0) (.int 1))) (.int 2)) (.int 0))]⟩
noncomputable def c_Fhas:Aq:=⟨[950007799183325528180,1972967859948709507384737905],2,[.ret (.and [(.call (.g 31) [(.v 1)]),(.cmp .In (.v 1) (.attr (.v 0) 12))])]⟩
noncomputable def Ie:Aq:=⟨[950007799183325528180],1,[.ret (.mu 4 (.call (.g 5) [(.attr (.v 0) 12)]))]⟩
noncomputable def EJ:Aq:=⟨[192524121870682778597944489011036038917448218529394060437475033184,4381002331299926544718449986240608],2,[.ite (.cmp .Lt (.v 1) (.call (.g 0) [(.v 0)])) [.ret (.sub (.v 0) (.v 1))] [],.ret (.int 0)]⟩
noncomputable def Ib:Aq:=⟨[189233104125022861345122375117010683388186817415792500651818221664,4381002331299926544718449986240608],2,[.ret (.bin .Mod (.bin .Add (.bin .Add (.bin .Mult (.v 0) (.int 48271)) (.bin .Mult (.int 7919) (.v 1))) (.int 11)) (.int 2147483647))]⟩
noncomputable def Ia:Aq:=⟨[80033084540639579203529368251194428811096298434648411734112],1,[.ret (.tup [(.sub (.v 0) (.int 1)),(.sub (.v 0) (.int 0))])]⟩
theorem Ar{n:Nat}(h:n<=1000):n<=big:=by unfold big;exact lin [n] [] (.b V0 Az) [.b V0 AE] rfl h
noncomputable def pureF(f:List AV->Option AV):FS:=⟨f,fun Z Z Z Z=>False,false⟩
noncomputable def specF(f:List AV->LS->KR->XL->Prop):FS:=⟨fun Z=>aa,f,false⟩
theorem FnOk.pureF{Φ:Tab}{c:Aq}{nv ns:Nat}{f:List AV->Option AV}(h:∀avs v,f avs=some v->∀K:KR,K ⟨[],.val v⟩ []->fnW Φ c .val nv ns avs [] K CA):FnOk Φ c .val nv ns (pureF f):=⟨fun Z Z Z Z h=>h.elim,h⟩
theorem FnOk.specF{Φ:Tab}{c:Aq}{rs:Rs}{nv ns:Nat}{f:List AV->LS->KR->XL->Prop}(h:∀avs V K X,f avs V K X->fnW Φ c rs nv ns avs V K X):FnOk Φ c rs nv ns (specF f):=⟨h,fun Z Z h=>by cases h⟩
noncomputable def fWhole:FS:=pureF fun avs=>(one? avs).bind fun a=>a.int?.bind fun Z=>some (.bool true)
theorem whole_ok{ex:List Nat}:FnOk ⟨true,ex,[],[],[]⟩ Lx .val 0 0 fWhole:=by
 refine .pureF fun u v h K hK=>?_;refine X1pp (AG h) fun a h1 h=>?_;refine X1pp (AG h) fun b h2 h=>?_
 cases h
 obtain rfl:=one?_out h1;rw [AV.int?_out h2];exact ⟨rfl,hK⟩
noncomputable def fSpot:FS:=pureF fun avs=>(spot1? avs).bind fun Z=>some (.bool true)
theorem spot_ok{ex:List Nat}:FnOk ⟨true,ex,[(30,fWhole)],[],[]⟩ c_spot .val 0 0 fSpot:=by
 refine .pureF fun u v h K hK=>?_;refine X1pp (AG h) fun k h1 h=>?_
 cases h
 obtain rfl:=spot1?_out h1;exact ⟨rfl,Ar (cq rfl),hK⟩
noncomputable def keyF(avs:List AV):Option AV:=(spot1? avs).bind fun k=>some (sp (k.2,k.1))
theorem FnOk.spot{Φ:Tab}{c:Aq}{nv ns:Nat}{g:Af->AV}(h:∀(k:Af)(K:KR),K ⟨[],.val (g k)⟩ []->fnW Φ c .val nv ns [sp k] [] K CA):FnOk Φ c .val nv ns (Mine.Internal.pureF fun u=>(spot1? u).bind fun k=>some (g k)) :=
 .pureF fun u v e K hK=>by
  refine X1pp (AG e) fun k h1 e=>?_
  cases e
  obtain rfl:=spot1?_out h1;exact h k K hK
theorem IQ{ex:List Nat}:FnOk ⟨true,ex,[],[],[]⟩ EH .val 0 0 (pureF keyF):=.spot fun k K hK=>⟨rfl,hK⟩
theorem FI{ex:List Nat}:FnOk ⟨true,ex,[],[],[]⟩ Ia .val 0 0 (pureF keyF):=.spot fun k K hK=>⟨rfl,hK⟩
noncomputable def fDark:FS:=pureF fun avs=>(spot1? avs).bind fun k=>some (.bool ((k.1+k.2).fmod 2 == 0))
theorem dark_ok{ex:List Nat}:FnOk ⟨true,ex,[],[],[]⟩ F7 .val 0 0 fDark:=.spot fun k K hK=>⟨rfl,hK⟩
noncomputable def EA:FS:=pureF fun avs=>(two? avs).bind fun p=>(int2? p.1 p.2).bind fun k=>some (.int ((k.1 * 48271+7919 * k.2+11).fmod 2147483647))
end
section
theorem C9{α:Type}{g:α->AV}{i:Nat}{u:M->LS->KV->Prop}{B:M->LS->KB->Prop}{ok:Option Nat}{m:M}{K:List AV->LS->Prop}{P:α->Bool}{f:α->AV}{V:LS}:∀{r:List α}{ys:List AV},
  (∀x∈r,∀(ys:List AV)(C:List AV->LS->Prop),(P x=true->C (ys++[f x]) V)->(P x=false->C ys V)->B (FA m i (g x)) V (fun b Aa=>ifW b (u (FA m i (g x)) Aa (fun y Ab=>stays ok V Ab (C (ys++[y]) Ab))) (stays ok V Aa (C ys Aa)))) ->
  K (ys++(r.filter P).map f) V->D2 i u B ok m K (r.map g) ys V
 | [],ys,_,hK=>by rw [iB,List.map_nil,aM] at hK;exact hK
 | x::r,ys,h,hK=>h x (.head _) ys (fun ys V=>D2 i u B ok m K (r.map g) ys V)
  (fun e=>C9 (fun y hy=>h y (.tail _ hy)) (by rw [List.filter_cons_of_pos e,bm] at hK;rw [aI];exact hK))
  (fun e=>C9 (fun y hy=>h y (.tail _ hy)) (by rw [List.filter_cons_of_neg (by rw [e];decide)] at hK;exact hK))
theorem F2{α:Type}{g:α->AV}{i:Nat}{u:M->LS->KV->Prop}{B:M->LS->KB->Prop}{ok:Option Nat}{m:M}{K:List AV->LS->Prop}{P:α->Bool}{f:α->AV}{V:LS}{items:List AV}{r:List α}(e:items=r.map g)
  (h:∀x∈r,∀(ys:List AV)(C:List AV->LS->Prop),(P x=true->C (ys++[f x]) V)->(P x=false->C ys V)->B (FA m i (g x)) V (fun b Aa=>ifW b (u (FA m i (g x)) Aa (fun y Ab=>stays ok V Ab (C (ys++[y]) Ab))) (stays ok V Aa (C ys Aa))))
  (hK:K ((r.filter P).map f) V):D2 i u B ok m K items [] V:=by
 rw [e];exact C9 h hK
theorem IC{ok:Option Nat}{V:LS}{P:Prop}(h:P):stays ok V V P:=by
 cases ok with
 | none=>exact h
 | some i=>exact ⟨rfl,h⟩
theorem EE{α:Type}{g:α->AV}{i:Nat}{u:M->LS->KV->Prop}{ok:Option Nat}{m:M}{K:List AV->LS->Prop}{f:α->AV}{V:LS}:∀{r:List α}{ys:List AV},
  (∀x∈r,∀C:KV,C (f x) V->u (FA m i (g x)) V C)->K (ys++r.map f) V->D2 i u (Gs []) ok m K (r.map g) ys V
 | [],ys,_,hK=>by rw [List.map_nil,aM] at hK;exact hK
 | x::r,ys,h,hK=>h x (.head _) _ (IC (EE (fun y hy=>h y (.tail _ hy)) (by rw [aI];exact hK)))
theorem BZ{α:Type}{g:α->AV}{i:Nat}{u:M->LS->KV->Prop}{ok:Option Nat}{m:M}{K:List AV->LS->Prop}{f:α->AV}{V:LS}{items:List AV}{r:List α}(e:items=r.map g)
  (h:∀x∈r,∀C:KV,C (f x) V->u (FA m i (g x)) V C) (hK:K (r.map f) V):D2 i u (Gs []) ok m K items [] V:=by
 rw [e];exact EE h hK
noncomputable def ivs(a:Int):Nat->List Int
 | 0=>[]
 | n+1=>a::ivs (a+1) n
theorem AA(a:Int):∀n,(ivs a n).length=n
 | 0=>rfl
 | n+1=>by rw [ivs,aL,AA (a+1) n]
theorem ivs_mem{a x:Int}:∀{n:Nat},x∈ivs a n↔a<=x/\x<a+n
 | 0=>by simp [ivs]
 | n+1=>by rw [ivs,aD,ivs_mem (n:=n)];exact ⟨fun z0=>⟨z0.elim (fun z1=>lin [] [x,a] (.f V1 V0) [.H (-1) V0 V1] rfl z1) (fun z1=>lin [] [a,x] (.f V0 V1) [.f (.A V0 K1) V1] rfl z1.1),z0.elim (fun z1=>lin [n] [x,a] (.g V0 (.A V1 (.c (.A V0 K1)))) [.h V0 V1] rfl z1) (fun z1=>lin [n] [x,a] (.g V0 (.A V1 (.c (.A V0 K1)))) [.g V0 (.A (.A V1 K1) (.c V0))] rfl z1.2)⟩,fun z0=>bQ fun z1=>(aQ (fun z=>z1 (.inl z))).elim (fun z2=>lin [] [a,x] .no [.f V0 V1,.g V1 V0] rfl z0.1 z2) (fun z2=>(a9.mp (fun z=>z1 (.inr z))).elim (fun z3=>lin [] [a,x] .no [.g V0 V1,.k (.A V0 K1) V1] rfl z2 z3) (fun z3=>lin [n] [x,a] .no [.g V0 (.A V1 (.c (.A V0 K1))),.l V0 (.A (.A V1 K1) (.c V0))] rfl z0.2 z3))⟩
theorem Df:∀(n:Nat)(a:Int),AU a 1 n=(ivs a n).map .int
 | 0,_=>rfl
 | n+1,a=>by
  unfold AU;rw [List.range_succ_eq_map,bm,bc];have ih:=Df n (a+1);unfold AU at ih;rw [ivs,bm,<- ih]
  congr 1
  ·simp
  ·apply cQ
   intro i _;simp only [Function.comp_def]
   congr 1
   exact ah (lin [i] [a] (.f (.A V0 (.M 1 (.c (.A V0 K1)))) (.A (.A V0 K1) (.M 1 (.c V0)))) [] rfl) (lin [i] [a] (.f (.A (.A V0 K1) (.M 1 (.c V0))) (.A V0 (.M 1 (.c (.A V0 K1))))) [] rfl)
theorem Ep(a b:Int):aR a b 1=max (b - a) 0:=by
 unfold aR;rw [if_pos (show (1:Int) > 0 by decide)]
 by_cases q:a<b
 ·rw [if_pos q,Int.ediv_one];exact ah (lin [] [b,a,max (b - a) 0] (.f (.A (.S (.S V0 V1) K1) K1) V2) [.f (.S V0 V1) V2] rfl (Int.le_max_left (b - a) (0))) ((Co (b - a) (0)).elim (fun z0=>lin [] [max (b - a) 0,b,a] (.f V0 (.A (.S (.S V1 V2) K1) K1)) [.h V0 (.S V1 V2)] rfl z0) (fun z0=>lin [] [a,b,max (b - a) 0] (.f V2 (.A (.S (.S V1 V0) K1) K1)) [.g V0 V1,.h V2 K0] rfl q z0))
 ·rw [if_neg q];exact ah (lin [] [max (b - a) 0] (.f K0 V0) [.f K0 V0] rfl (du (b - a) (0))) ((Co (b - a) (0)).elim (fun z0=>lin [] [a,b,max (b - a) 0] (.f V2 K0) [.l V0 V1,.h V2 (.S V1 V0)] rfl q z0) (fun z0=>lin [] [max (b - a) 0] (.f V0 K0) [.h V0 K0] rfl z0))
theorem JN(a b:Int):AU a 1 (A9 a b 1)=(ivs a (b - a).toNat).map .int:=by
 have e:A9 a b 1=(b - a).toNat:=by
  unfold A9;rw [Ep];exact aw ((Hg (b - a)).elim (fun z0=>(Co (b - a) (0)).elim (fun z1=>lin [(b - a).toNat,(max (b - a) 0).toNat] [b,a,max (b - a) 0] (.b V1 V0) [.f (.S V0 V1) (.c V0),.h (.c V1) V2,.h V2 (.S V0 V1)] rfl (aK (b - a)) (au (lin [] [max (b - a) 0] (.f K0 V0) [.f K0 V0] rfl (du (b - a) (0)))) z1) (fun z1=>lin [(max (b - a) 0).toNat,(b - a).toNat] [max (b - a) 0] (.b V0 V1) [.h (.c V0) V0,.h V0 K0] rfl (au (lin [] [max (b - a) 0] (.f K0 V0) [.f K0 V0] rfl (du (b - a) (0)))) z1)) (fun z0=>(Co (b - a) (0)).elim (fun z1=>lin [(max (b - a) 0).toNat,(b - a).toNat] [max (b - a) 0,b,a] (.B 0 V0 V1) [.f K0 V0,.g (.S V1 V2) K0,.h V0 (.S V1 V2)] rfl (du (b - a) (0)) z0.1 z1) (fun z1=>lin [(max (b - a) 0).toNat,(b - a).toNat] [max (b - a) 0] (.b V0 V1) [.h (.c V0) V0,.h V0 K0] rfl (au (lin [] [max (b - a) 0] (.f K0 V0) [.f K0 V0] rfl (du (b - a) (0)))) z1))) ((Hg (b - a)).elim (fun z0=>lin [(max (b - a) 0).toNat,(b - a).toNat] [max (b - a) 0,b,a] (.b V1 V0) [.f V0 (.c V0),.f (.S V1 V2) V0,.h (.c V1) (.S V1 V2)] rfl (aK (max (b - a) 0)) (Int.le_max_left (b - a) (0)) z0.2) (fun z0=>lin [(b - a).toNat,(max (b - a) 0).toNat] [] (.b V0 V1) [.d V0 K0] rfl z0.2))
 rw [e,Df]
theorem Cx{a b:Int}(h1:-1000000<=a)(h2:a<=1000000)(h3:-1000000<=b)(h4:b<=1000000):cg a b 1=true:=by
 have Y:∀i:Int,-10000000<=i->i<=10000000->gm i=true:=fun i h1 h2=>by
  unfold gm;rw [bE,decide_eq_true_eq,decide_eq_true_eq];exact ⟨dh (by decide) h1,eO h2 (by decide)⟩
 unfold cg;rw [Ep,Y a (by exact lin [] [a] (.f B9 V0) [.f Bk V0] rfl h1) (by exact lin [] [a] (.f V0 B2) [.f V0 Az] rfl h2),Y b (by exact lin [] [b] (.f B9 V0) [.f Bk V0] rfl h3) (by exact lin [] [b] (.f V0 B2) [.f V0 Az] rfl h4),Y 1 (by decide) (by decide),Y _ (by exact lin [] [max (b - a) 0] (.f B9 V0) [.f K0 V0] rfl (du (b - a) (0))) (by exact (Co (b - a) (0)).elim (fun z0=>lin [] [a,b,max (b - a) 0] (.f V2 B2) [.f Bk V0,.f V1 Az,.h V2 (.S V1 V0)] rfl h1 h4 z0) (fun z0=>lin [] [max (b - a) 0] (.f V0 B2) [.h V0 K0] rfl z0):max (b - a) 0<=10000000)]
 rw [if_pos (show (1:Int) > 0 by decide)]
 rw [Y (b+(1 - 1)) (by exact lin [] [b] (.f B9 (.A V0 (.S K1 K1))) [.f Bk V0] rfl h3) (by exact lin [] [b] (.f (.A V0 (.S K1 K1)) B2) [.f V0 Az] rfl h4),Bool.or_true]
 rfl
theorem JL(n:Nat):AU 0 1 (A9 0 n 1)=(ivs 0 n).map .int:=by
 rw [JN,show ((n:Int) - 0).toNat=n by omega]
theorem mixed_ok{ex:List Nat}:FnOk ⟨true,ex,[],[],[]⟩ Ib .val 0 0 EA:=by
 refine .pureF fun u v h K hK=>?_;refine X1pp (AG h) fun p h1 h=>?_;refine X1pp (AG h) fun k h2 h=>?_
 cases h
 obtain rfl:=two?_out h1;rw [(int2?_out h2).1,(int2?_out h2).2];exact ⟨rfl,IntMulOk.of_right (by decide +kernel),fG (by decide +kernel),by decide,hK⟩
inductive QfAt(avs:List AV)(V:LS)(K:KR):Prop
 | mk (l:List Int)(j:Nat)(c0:avs=[.nums l,.int j])(c1:l.length<=1000)(c2:V=[])(c3:K ⟨[],.val (.int (l.getD j 0))⟩ []):QfAt avs V K
noncomputable def fAt:FS:=specF fun avs V K Z=>QfAt avs V K
theorem at_ok{ex:List Nat}:FnOk ⟨true,ex,[],[],[]⟩ EJ .val 0 0 fAt:=by
 refine .specF fun u V K X h=>?_;obtain ⟨l,j,rfl,hl,rfl,hK⟩:=h;refine ⟨rfl,Ar hl,?_⟩
 by_cases hj:j<l.length
 ·refine ifT (by rw [decide_eq_true_eq];exact lin [j,l.length] [] (.g (.c V0) (.c V1)) [.c V0 V1] rfl hj) ⟨⟨by exact lin [j] [] (.f K0 (.c V0)) [] rfl,by exact lin [l.length,j] [] (.g (.c V1) Az) [.b V0 AE,.c V1 V0] rfl hl hj⟩,l.getD j 0,?_,hK⟩
  rw [show ((j:Int)).toNat=j by omega,aE hj,az,aE hj];rfl
 ·refine ifF (by rw [decide_eq_false_iff_not];exact lin [j,l.length] [] (.l (.c V0) (.c V1)) [.j V0 V1] rfl hj) ?_
  have:l.getD j 0=0:=by rw [az,ba (by exact lin [j,l.length] [] (.b V1 V0) [.j V0 V1] rfl hj)];rfl
  rw [this] at hK;exact hK
noncomputable abbrev Bi(t:AV)(P:List Af):AV:=.inst (Ft t (.dict (tt P)))
theorem EV(P:List Af):((tt P).map fun p=>sp p.1)=P.map sp:=by unfold tt;rw [bc];rfl
inductive QfHas(avs:List AV)(V:LS)(K:KR):Prop
 | mk (t:AV)(P:List Sp)(k:_)(b:_)(c0:avs=[Bi t P,sp k])(c1:V=[])(c2:decide (k∈P)=b)(c3:K ⟨[],.val (.bool b)⟩ []):QfHas avs V K
noncomputable def fHas:FS:=specF fun avs V K Z=>QfHas avs V K
theorem has_ok{ex:List Nat}:FnOk ⟨true,ex,[(31,fSpot)],[],[]⟩ c_Fhas .val 0 0 fHas:=by
 refine .specF fun u V K X h=>?_;obtain ⟨t,P,k,b,rfl,rfl,e,hK⟩:=h;exact ⟨rfl,⟨rfl,rfl⟩,rfl,b,(Cq P k).trans e,hK⟩
inductive LT(avs:List AV)(V:LS)(K:KR):Prop
 | mk (t:AV)(P:List Sp)(c0:avs=[Bi t P])(c1:P.length<=1000)(c2:V=[])(c3:K ⟨[.list (P.map sp)],.new 0⟩ []):LT avs V K
noncomputable def Le:FS:=specF fun avs V K Z=>LT avs V K
theorem cells_ok{ex:List Nat}:FnOk ⟨true,ex,[],[],[]⟩ Ie .new 0 5 Le:=by
 refine .specF fun u V K X h=>?_;obtain ⟨t,P,rfl,hl,rfl,hK⟩:=h;exact ⟨rfl,⟨rfl,rfl⟩,rfl,Ar (by rw [BO];exact hl),fun a=>⟨rfl,by rw [EV];exact hK⟩⟩
end
section
noncomputable def EM:Aq:=⟨[950007799183325528180,1953625148292055806928486503,121,122,1079135020893454991476],1,[.assign (.v 1) (.mu 4 (.dict [] [])),.for_ (.tup [(.v 2),(.v 3)]) (.attr (.v 0) 12) [.for_ (.v 4) (.list [(.tup [(.v 2),(.v 3)]),(.tup [(.bin .Add (.v 2) (.int 1)),(.v 3)]),(.tup [(.v 2),(.bin .Add (.v 3) (.int 1))]),(.tup [(.bin .Add (.v 2) (.int 1)),(.bin .Add (.v 3) (.int 1))])]) [.setitem (.v 1) (.v 4) (.bool true)]],.ret (.mu 5 (.sorted (.call (.g 5) [(.v 1)]) (.g 32)))]⟩
noncomputable def ins(fs:List Af)(k:Af):List Af:=if k∈fs then fs else fs++[k]
theorem ins_mem{fs:List Af}{k x:Af}:x∈ins fs k↔x∈fs\/x=k:=by
 unfold ins
 by_cases h:k∈fs
 ·rw [if_pos h]
  exact ⟨.inl,fun q=>q.elim id fun e=>e▸h⟩
 ·rw [if_neg h,aN,aJ]
theorem Ku{fs:List Af}{k:Af}(n:fs.Nodup):(ins fs k).Nodup:=by
 unfold ins
 by_cases h:k∈fs
 ·rw [if_pos h];exact n
 ·rw [if_neg h,bF]
  exact ⟨n,bz.mpr ⟨bn,fm⟩,fun a ha b hb e=>h (by rw [<- aJ.mp hb,<- e];exact ha)⟩
theorem H3{fs:List Af}{k:Af}(n:fs.Nodup):Bo (tt fs) k (.bool true)=tt (ins fs k):=by
 unfold ins
 by_cases h:k∈fs
 ·rw [if_pos h]
  unfold Bo;rw [Cq,decide_eq_true h,if_pos rfl];unfold tt;rw [bc];apply cQ;intro x _
  by_cases e:x=k
  ·simp [e]
  ·simp [e]
 ·rw [if_neg h];exact G0 h
noncomputable def Bm(k:Af):List Af:=[(k.1,k.2),(k.1+1,k.2),(k.1,k.2+1),(k.1+1,k.2+1)]
noncomputable def BN(P:List Af):List Af:=P.foldl (fun fs c=>(Bm c).foldl ins fs) []
theorem BL{x:Af}:∀{ks fs:List Af},x∈ks.foldl ins fs↔x∈fs\/x∈ks
 | [],fs=>by simp
 | k::ks,fs=>by rw [cT,BL,ins_mem,aD,or_assoc]
theorem Bd:∀{ks fs:List Af},fs.Nodup->(ks.foldl ins fs).Nodup
 | [],_,n=>n
 | k::ks,fs,n=>by rw [cT];exact Bd (Ku n)
theorem EC{x:Af}:∀{P fs:List Af},x∈P.foldl (fun fs c=>(Bm c).foldl ins fs) fs↔x∈fs\/∃c∈P,x∈Bm c
 | [],fs=>by simp
 | p::P,fs=>by
  rw [cT,EC,BL,or_assoc]
  simp
theorem Dk:∀{P fs:List Af},fs.Nodup->(P.foldl (fun fs c=>(Bm c).foldl ins fs) fs).Nodup
 | [],_,n=>n
 | p::P,fs,n=>by rw [cT];exact Dk (Bd n)
theorem cornF_mem{x:Af}{P:List Af}:x∈BN P↔∃c∈P,x∈Bm c:=by unfold BN;rw [EC];simp
theorem DY(P:List Af):(BN P).Nodup:=Dk fm
noncomputable def lt2(a b:Af):Prop:=a.2<b.2\/(a.2=b.2/\a.1<b.1)
theorem GO(a:Af):¬lt2 a a:=by unfold lt2;exact fun z0=>z0.elim (fun z1=>lin [] [a.snd] .no [.g V0 V0] rfl z1) (fun z1=>lin [] [a.fst] .no [.g V0 V0] rfl z1.2)
theorem lt2_asym{a b:Af}(h:lt2 a b):¬lt2 b a:=by unfold lt2 at *;exact fun z0=>h.elim (fun z1=>z0.elim (fun z2=>lin [] [a.snd,b.snd] .no [.g V0 V1,.g V1 V0] rfl z1 z2) (fun z2=>lin [] [a.snd,b.snd] .no [.g V0 V1,.h V1 V0] rfl z1 z2.1)) (fun z1=>z0.elim (fun z2=>lin [] [a.snd,b.snd] .no [.h V0 V1,.g V1 V0] rfl z1.1 z2) (fun z2=>lin [] [a.fst,b.fst] .no [.g V0 V1,.g V1 V0] rfl z1.2 z2.2))
theorem Cu{l:List Af}(h:l.Pairwise lt2):l.Nodup:=h.imp fun q e=>by subst e;exact GO _ q
theorem Jo:∀{l k:List Af},l.Pairwise lt2->k.Pairwise lt2->(∀x,x∈l↔x∈k)->l=k
 | [],[],_,_,_=>rfl
 | [],b::k,_,_,h=>by have:=(h b).mpr (.head _);cases this
 | a::l,[],_,_,h=>by have:=(h a).mp (.head _);cases this
 | a::l,b::k,hl,hk,h=>by
  rw [eR] at hl hk;have e:a=b:=by
   rcases aD.mp ((h a).mp (.head _)) with q | q
   ·exact q
   ·rcases aD.mp ((h b).mpr (.head _)) with z | z
    ·exact z.symm
    ·exact absurd (hk.1 a q) (lt2_asym (hl.1 b z))
  subst e
  congr 1
  refine Jo hl.2 hk.2 fun x=>⟨fun hx=>?_,fun hx=>?_⟩
  ·rcases aD.mp ((h x).mp (.tail _ hx)) with q | q
   ·clear hk h;subst q;exact absurd (hl.1 x hx) (GO _)
   ·exact q
  ·rcases aD.mp ((h x).mpr (.tail _ hx)) with q | q
   ·clear hl h;subst q;exact absurd (hk.1 x hx) (GO _)
   ·exact q
noncomputable def kyF(x:AV):Option Af:=(spot? x).bind fun k=>some (k.2,k.1)
theorem lt2_key{a b:Af}(h:AL (Do kyF (sp a)) (Do kyF (sp b))=true):lt2 a b:=by
 exact pairLt_iff.mp (show AL (a.2,a.1) (b.2,b.1)=true from h)
theorem sortW.spots{mu:Option Nat}{fs C:List Af}{V:LS}{K:KV}(n:fs.Nodup)(hC:C.Pairwise lt2)(hm:∀x,x∈fs↔x∈C)(u:C.length<64)(h:frW mu (.list (C.map sp)) (.list (C.map sp)) V K):sortW kyF mu (fs.map sp) V K:=by
 refine ⟨⟨fun x hx=>by refine X1pp (aZ.mp hx) fun k Z Z0=>?_;subst Z0;rfl,?_,?_⟩,fun L' hL=>?_⟩
 ·rw [aj,same_length n (Cu hC) hm];exact u
 ·rw [bc]
  refine cM.mpr (n.imp fun q e=>q ?_);have e:((_,_):Af)=(_,_):=e;exact bH (gO e).2 (gO e).1
 ·refine Ao hL fun p hL=>?_
  have:∃D:List Af,L'=D.map sp:=by
   refine ⟨L'.map fun x=>let k:=Do kyF x;(k.2,k.1),?_⟩;rw [bc];refine (iD L').symm.trans (cQ fun x hx=>?_);refine X1pp (aZ.mp (p.mem_iff.mp hx)) fun k Z Z1=>?_;clear hx;subst Z1
   rfl
  refine X1p this fun D Z2=>?_;subst Z2;have hD:D.Pairwise lt2:=(cM.mp hL).imp lt2_key;have inj:∀a b:Af,sp a=sp b->a=b:=fun a b e=>by
   have e:=AV.tup.inj e;exact bH (AV.int.inj (eJ e).1) (AV.int.inj (eJ (eJ e).2).1)
  have:D=C:=Jo hD hC fun x=>by
   rw [<- hm]
   constructor
   ·intro hx
    refine X1pp (aZ.mp (p.mem_iff.mp (cD hx))) fun k hk e=>?_;rw [<- inj _ _ e];exact hk
   ·intro hx
    obtain ⟨k,hk,e⟩:=aZ.mp (p.mem_iff.mpr (cD hx));rw [<- inj _ _ e];exact hk
  clear hC hm u;subst this;exact h
structure Cor(P C:List Af):Prop where
 up:C.Pairwise lt2
 mem:∀k,k∈C↔∃c∈P,k∈Bm c
 few:C.length<64
theorem Cor.fold{P C:List Af}(h:Cor P C)(x:Af):x∈BN P↔x∈C:=cornF_mem.trans (h.mem x).symm
theorem CI:∀{ks fs:List Af},(ks.foldl ins fs).length<=fs.length+ks.length
 | [],fs=>ay _
 | k::ks,fs=>by
  rw [cT];refine aB CI ?_
  have:(ins fs k).length<=fs.length+1:=by
   unfold ins
   split<;>simp
  rw [aL];exact lin [(ins fs k).length,fs.length,ks.length] [] (.b (.A V0 V2) (.A V1 (.A V2 K1))) [.b V0 (.A V1 K1)] rfl this
theorem I7(d:List Af)(c:Af):BN (d++[c])=(Bm c).foldl ins (BN d):=by unfold BN;rw [gP];rfl
theorem ED:∀{P fs:List Af},(P.foldl (fun fs c=>(Bm c).foldl ins fs) fs).length<=fs.length+4 * P.length
 | [],fs=>ay _
 | p::P,fs=>by
  rw [cT];refine aB ED ?_
  have:=CI (ks:=Bm p) (fs:=fs)
  have e:(Bm p).length=4:=rfl;rw [aL];exact lin [(iy ins fs (Bm p)).length,fs.length,(Bm p).length,P.length] [] (.b (.A V0 (.M 4 V3)) (.A V1 (.M 4 (.A V3 K1)))) [.b V0 (.A V1 V2),.d V2 K4] rfl this e
theorem F1(P:List Af):(BN P).length<=4 * P.length:=by
 have:=ED (P:=P) (fs:=[])
 unfold BN;rw [de] at this;exact lin [(iy (fun fs c=>iy ins fs (Bm c)) [] P).length,P.length] [] (.b V0 (.M 4 V1)) [.b V0 (.A K0 (.M 4 V1))] rfl this
theorem iterW.tt{P:List Af}{V:LS}{G:KG}(h:G (P.map sp) aa V):iterW true (.dict (tt P)) V G:=by
 rw [<- EV] at h;exact h
theorem listW.tt{mu:Option Nat}{P:List Af}{V:LS}{K:KV}{a:Addr}{i:Nat}(e:slot V i=.at a (.dict (Mine.Internal.tt P)))(hl:P.length<=1000)(h:frW mu (.list (P.map sp)) (.list (P.map sp)) V K):listW true mu (.loc a i) V K:=by
 rw [<- EV] at h;unfold listW;simp only [e];exact ⟨trivial,Ar (by rw [BO];exact hl),h⟩
inductive Gj(avs:List AV)(V:LS)(K:KR):Prop
 | mk (t:AV)(P:List Sp)(C:List Sp)(c0:avs=[Bi t P])(c1:V=[])(c2:P.length<=100)(c3:Cor P C)(c4:K ⟨[.list (C.map sp)],.new 0⟩ []):Gj avs V K
noncomputable def Fb:FS:=specF fun avs V K X=>Gj avs V K
theorem I6{ex:List Nat}:FnOk ⟨true,ex,[],[],[(32,kyF)]⟩ EM .new 4 6 Fb:=by
 refine .specF fun U V K X h=>?_;obtain ⟨t,P,C,rfl,rfl,hP,hC,hK⟩:=h;refine ⟨rfl,fun a=>⟨⟨rfl,rfl⟩,rfl,iterW.tt ?_⟩⟩;refine AQ (g:=sp) rfl (fun d r m V=>d++r=P/\∃x y z,m=[some (Bi t P),some (.loc a 4),x,y,z]/\V=[.no,.no,.no,.no,.at a (.dict (tt (BN d))),.no]) ?_ ?_ (d:=[]) ⟨rfl,_,_,_,rfl,rfl⟩
 ·intro d m V u
  obtain ⟨hd,x,y,z,rfl,rfl⟩:=u;rw [aM] at hd;subst hd;show listW true aa (.loc a 4) [.no,.no,.no,.no,.at a (.dict (tt (BN d))),.no] _;refine listW.tt (P:=BN d) ?_ (by have:=F1 d;exact lin [d.length,(BN d).length] [] (.b V1 AE) [.B 4 V0 Eb,.b V1 (.M 4 V0)] rfl hP this) ?_
  ·rfl
  refine sortW.spots (DY d) hC.up hC.fold hC.few fun b=>⟨rfl,hK⟩
 ·intro d k r m V u C' O
  obtain ⟨hd,x,y,z,rfl,rfl⟩:=u;have hl:d.length+r.length+1=P.length:=by rw [<- hd];simp;exact aw (lin [d.length,r.length] [] (.b (.A (.A V0 V1) K1) (.A V0 (.A V1 K1))) [] rfl) (lin [d.length,r.length] [] (.b (.A V0 (.A V1 K1)) (.A (.A V0 V1) K1)) [] rfl)
  refine AQ (r:=Bm k) (g:=sp) rfl (fun e s m V=>e++s=Bm k/\∃z,m=[some (Bi t P),some (.loc a 4),some (.int k.1),some (.int k.2),z]/\V=[.no,.no,.no,.no,.at a (.dict (tt (e.foldl ins (BN d)))),.no]) ?_ ?_ (d:=[]) ⟨rfl,_,rfl,rfl⟩
  ·intro e m V u
   obtain ⟨he,z,rfl,rfl⟩:=u;rw [aM] at he;subst he;exact O _ _ ⟨by rw [aI];exact hd,_,_,_,rfl,by rw [I7]⟩
  ·intro e c s m V u C2 T
   obtain ⟨he,z,rfl,rfl⟩:=u;have h4:e.length+s.length+1=4:=by
    have:=congrArg bR he
    rw [ao,aL] at this;have e4:(Bm k).length=4:=rfl;exact aw (lin [e.length,s.length,(Bm k).length] [] (.b (.A (.A V0 V1) K1) K4) [.d (.A V0 (.A V1 K1)) V2,.d V2 K4] rfl this e4) (lin [e.length,s.length,(Bm k).length] [] (.b K4 (.A (.A V0 V1) K1)) [.D (-1) (.A V0 (.A V1 K1)) V2,.D (-1) V2 K4] rfl this e4)
   refine ⟨rfl,Ar ?_,?_⟩
   ·rw [BO]
    have h1:=CI (ks:=e) (fs:=BN d);have h2:=F1 d;exact lin [P.length,d.length,r.length,e.length,s.length,(iy ins (BN d) e).length,(BN d).length] [] (.b V5 AE) [.B 4 V0 Eb,.D 4 (.A (.A V1 V2) K1) V0,.d (.A (.A V3 V4) K1) K4,.b V5 (.A V6 V3),.b V6 (.M 4 V1)] rfl hP hl h4 h1 h2
   ·refine T _ _ ⟨by rw [aI];exact he,_,rfl,?_⟩
    rw [gP];exact congrArg (fun z=>([.no,.no,.no,.no,.at a (.dict z),.no]:LS)) (H3 (Bd (DY d)))
end
section
open PySem PySem.Builtin PySem.Builtin.Str
noncomputable def Bl(s sub:Str)(hi i:Nat)(r:Array Nat×Nat):Id (ForInStep (Array Nat×Nat)) :=
 if (decide (r.1.size<1) && decide (r.2<=i) && decide (i+sub.length<=hi) && subAt s sub i)=true then pure (.yield (r.1.push i,i+sub.length)) else pure (.yield (r.1,r.2))
theorem Dr(s sub:Str)(hi:Nat):∀(L:List Nat)(f:Array Nat)(fr:Nat),(f=#[]->fr=0) ->
  (Id.run (forIn (m:=Id) L ((f,fr):Array Nat×Nat) (Bl s sub hi))).1.isEmpty=(f.isEmpty && !(L.any fun i=>decide (i+sub.length<=hi) && subAt s sub i))
 | [],f,fr,h=>by simp
 | i::L,f,fr,h=>by
  rw [d0]
  by_cases q:f=#[]
  ·obtain rfl:=q
   obtain rfl:=h rfl
   by_cases p:(decide (i+sub.length<=hi) && subAt s sub i)=true
   ·have e:Bl s sub hi i (#[],0)=pure (.yield (#[i],i+sub.length)):=by
     unfold Bl;rw [if_pos (by simp;simpa using p)];rfl
    rw [e];show (Id.run (forIn (m:=Id) L ((#[i],i+sub.length):Array Nat×Nat) (Bl s sub hi))).1.isEmpty=_;rw [Dr s sub hi L _ _ (fun z=>by simp at z)]
    rw [fK,p];simp
   ·have e:Bl s sub hi i (#[],0)=pure (.yield (#[],0)):=by
     unfold Bl;rw [if_neg (by simp;simpa using p)]
    rw [e];show (Id.run (forIn (m:=Id) L ((#[],0):Array Nat×Nat) (Bl s sub hi))).1.isEmpty=_;rw [Dr s sub hi L _ _ (fun Z=>rfl)];have p':(decide (i+sub.length<=hi) && subAt s sub i)=false:=by simpa using p
    rw [fK,p',Bool.false_or]
  ·have e:Bl s sub hi i (f,fr)=pure (.yield (f,fr)):=by
    unfold Bl
    have:¬f.size<1:=fun z=>q (Array.eq_empty_of_size_eq_zero (by exact aw (lin [f.size] [] (.b V0 K0) [.c V0 K1] rfl z) (lin [f.size] [] (.b K0 V0) [] rfl)))
    rw [if_neg (by simp [this])]
   rw [e];show (Id.run (forIn (m:=Id) L ((f,fr):Array Nat×Nat) (Bl s sub hi))).1.isEmpty=_;rw [Dr s sub hi L _ _ h]
   have:f.isEmpty=false:=by
    cases z:f.isEmpty with
    | false=>rfl
    | true=>exact absurd (Array.isEmpty_iff.mp z) q
   simp [this]
theorem DU(a:Array Nat)(i:Nat)(h:i<a.size):a.extract i (i+1)=#[a[i]]:=by
 apply Array.ext
 ·simp;exact aw ((sub_sp (d9 (i+1) a.size) i).elim (fun z0=>lin [d9 (i+1) a.size,i,d9 (i+1) a.size - i] [] (.b V2 K1) [.b V0 (.A V1 K1),.d (.A V2 V1) V0] rfl (gd (i+1) a.size) z0.2) (fun z0=>lin [d9 (i+1) a.size - i] [] (.b V0 K1) [.d V0 K0] rfl z0.2)) ((sub_sp (d9 (i+1) a.size) i).elim (fun z0=>(GF (i+1) a.size).elim (fun z1=>lin [d9 (i+1) a.size,i,d9 (i+1) a.size - i] [] (.b K1 V2) [.b V0 (.A V1 V2),.D (-1) V0 (.A V1 K1)] rfl (aq.mp (ay ((d9 (i+1) a.size) - (i)))) z1) (fun z1=>lin [i,a.size,d9 (i+1) a.size,d9 (i+1) a.size - i] [] (.b K1 V3) [.c V0 V1,.b V2 (.A V0 V3),.D (-1) V2 V1] rfl h (aq.mp (ay ((d9 (i+1) a.size) - (i)))) z1)) (fun z0=>(GF (i+1) a.size).elim (fun z1=>lin [d9 (i+1) a.size,i,d9 (i+1) a.size - i] [] (.B 0 K1 V2) [.c V0 V1,.D (-1) V0 (.A V1 K1)] rfl z0.1 z1) (fun z1=>lin [i,a.size,d9 (i+1) a.size,d9 (i+1) a.size - i] [] (.B 0 K1 V3) [.c V0 V1,.c V2 V0,.D (-1) V2 V1] rfl h z0.1 z1)))
 ·intro j h1 h2
  have:j=0:=by simp at h2;exact aw (lin [j] [] (.b V0 K0) [.d V0 K0] rfl h2) (lin [j] [] (.b K0 V0) [] rfl)
  subst this
  simp
theorem Fi(x:Str):eu x "#"=x.cps.any (· == 35):=by
 have e:eu x "#"=!(Id.run (forIn (m:=Id) [0:x.length+1] ((#[],0):Array Nat×Nat) (Bl x "#" x.length))).1.isEmpty:=by
  unfold eu occurrences;show (!(Id.run (forIn (m:=Id) [0:x.length+1] ((#[],0):Array Nat×Nat) (Bl x "#" x.length))).1.toList.isEmpty)=_;rw [Array.isEmpty_toList]
 rw [e,eh,Dr x "#" x.length _ _ _ (fun Z=>rfl)];simp only [Array.isEmpty_empty,Bool.true_and,Bool.not_not];rw [Bool.eq_iff_iff,dO,Array.any_eq_true];have h1:("#":Str).length=1:=by decide
 have h2:("#":Str).cps=#[35]:=by decide
 constructor
 ·intro u
  obtain ⟨i,hi,h⟩:=u;simp only [h1,bE,decide_eq_true_eq,subAt,h2,beq_iff_eq] at h;refine Ao h fun h3 h4=>?_;have lt:i<x.cps.size:=h3;refine ⟨i,lt,?_⟩;rw [DU _ _ lt] at h4;simp at h4 ⊢;exact h4
 ·intro u
  obtain ⟨i,hi,h⟩:=u;refine ⟨i,by simp [Str.length];exact lin [i,x.cps.size] [] (.c V0 (.A V1 K1)) [.c V0 V1] rfl hi,?_⟩
  simp only [h1,bE,decide_eq_true_eq,subAt,h2,beq_iff_eq];refine ⟨hi,?_⟩;rw [DU _ _ hi];simp at h ⊢;exact h
end
section
open PySem PySem.Builtin PySem.Builtin.Str
theorem EP(x y:Str):(x++y).cps.toList=x.cps.toList++y.cps.toList:=by
 show (Str.append x y).cps.toList=_;unfold Str.append
 simp
theorem app_len(x y:Str):(x++y).length=x.length+y.length:=by
 show (Str.append x y).cps.size=x.cps.size+y.cps.size;unfold Str.append
 simp
theorem DR(b:Array Nat):∀(n:Nat)(a:Array Nat),((be n b).foldl (·++·) a).toList=a.toList++(be n b.toList).flatten
 | 0,a=>by simp
 | n+1,a=>by
  rw [gg,cT,DR b n];simp [gg]
set_option tactic.hygienic true in
theorem IU(x:Str)(n:Int):(dW x n).cps.toList=(be n.toNat x.cps.toList).flatten:=by
 unfold dW
 split
 ·rw [show n.toNat=0 by omega];rfl
 ·split
  ·rename_i q
   rw [dZ,beq_iff_eq,beq_iff_eq] at q
   rcases q with rfl | q
   ·simp
   ·have:x.cps.toList=[]:=by
     have h:x.cps.size=0:=q;rw [<- List.length_eq_zero_iff,ge];exact h
    rw [this];simp
  ·rw [DR];simp
theorem E6(c:Nat)(n:Int):(dW ⟨#[c]⟩ n).cps.toList=be n.toNat c:=by
 rw [IU];simp [List.flatten_replicate_singleton]
theorem mul_ok{x:Str}{n:Int}(hx:x.length<=100)(h1:n<=100)(h0:-100<=n):MulOk x n:=by
 refine ⟨?_,fun z Z=>?_,fun z Z=>?_⟩
 ·simp;exact ⟨lin [] [n] (.f B1 V0) [.f Km100 V0] rfl h0,lin [] [n] (.g V0 Cc) [.f V0 Eb] rfl h1⟩
 ·have:(2 ^ 63 - 1) / n >= 92233720368547758:=by
   have:(92233720368547758:Int)<=(2 ^ 63 - 1) / n:=by
    rw [Int.le_ediv_iff_mul_le (by exact lin [] [n] (.g K0 V0) [.l V0 K1] rfl z)]
    have:92233720368547758 * n<=92233720368547758 * 100:=Int.mul_le_mul_of_nonneg_left h1 (by decide)
    omega
   exact this
  exact lin [x.length] [(2 ^ 63 - 1) / n] (.l V0 (.c V0)) [.b V0 Eb,.f CW V0] rfl hx this
 ·unfold tooLong
  have:x.length * n.toNat<=100 * 100:=dQ hx (by exact lin [n.toNat] [n] (.b V0 Eb) [.f V0 Eb,.h (.c V0) V0] rfl h1 (au (lin [] [n] (.f K0 V0) [.l V0 K1] rfl z)))
  simp [fL];exact lin [x.length * n.toNat] [] (.b V0 A3) [.b V0 (.M 100 Eb)] rfl this
theorem FP(ys:List Str):(Txt.join "" ys).cps.toList=(ys.map (·.cps.toList)).flatten:=by
 have he:("":Str).cps=#[]:=by decide +kernel
 have key:∀(l:List Str)(a:Array Nat),(l.foldl (fun acc p=>acc++("":Str).cps++p.cps) a).toList=a.toList++(l.map (·.cps.toList)).flatten:=by
  intro l
  induction l with
  | nil=>intro a;simp
  | cons p l ih=>intro a;rw [cT,ih,he];simp
 unfold Txt.join glued
 cases ys with
 | nil=>rfl
 | cons y r=>simp only [List.headD_cons,List.drop_one,List.tail_cons];rw [key];simp
end
section
noncomputable def sgn:Bool->Nat
 | true=>35
 | false=>46
noncomputable def B5(r:List Bool):Str:=⟨(r.map sgn).toArray⟩
noncomputable abbrev Gr:=List (List Bool)
noncomputable def AC(G:Gr):List AV:=G.map fun r=>.str (B5 r)
structure Grid(G:Gr)(w:Nat):Prop where
 h1:1<=G.length
 h6:G.length<=6
 w1:1<=w
 w6:w<=6
 len:∀r∈G,r.length=w
theorem AY(r:List Bool):(B5 r).length=r.length:=by
 show (B5 r).cps.size=_;unfold B5;simp
theorem Eo(r:List Bool):(B5 r).cps.all (·<128)=true:=by
 rw [Array.all_eq_true_iff_forall_mem];intro c hc
 have:c∈r.map sgn:=by unfold B5 at hc;simpa using hc
 refine X1pr c (aZ.mp this) fun b Z=>?_
 cases b<;>rfl
theorem JJ(r:List Bool):eu (B5 r) "#"=r.any id:=by
 rw [Fi]
 have:(B5 r).cps.any (· == 35)=(r.map sgn).any (· == 35):=by unfold B5;simp
 rw [this,List.any_map]
 congr 1
 funext b
 cases b<;>rfl
noncomputable def Ce(y x:Int):List Bool->List Sp
 | []=>[]
 | b::r=>match b with
  | true=>(x,y)::Ce y (x+1) r
  | false=>Ce y (x+1) r
noncomputable def BF(y:Int):Gr->List Sp
 | []=>[]
 | r::G=>Ce y 0 r++BF (y+1) G
noncomputable def Ae(G:Gr):List Sp:=BF 0 G
theorem EY{y:Int}:∀{r:List Bool}{x:Int},(Ce y x r).length<=r.length
 | [],_=>ay _
 | b::r,x=>by
  have:=EY (y:=y) (r:=r) (x:=x+1)
  cases b
  ·show (Ce y (x+1) r).length<=r.length+1;exact lin [(Ce y (x+1) r).length,r.length] [] (.b V0 (.A V1 K1)) [.b V0 V1] rfl this
  ·show (Ce y (x+1) r).length+1<=r.length+1;exact lin [(Ce y (x+1) r).length,r.length] [] (.b (.A V0 K1) (.A V1 K1)) [.b V0 V1] rfl this
theorem B8{w:Nat}:∀{G:Gr}{y:Int},(∀r∈G,r.length=w)->(BF y G).length<=G.length * w
 | [],_,_=>cI _
 | r::G,y,h=>by
  rw [BF,ao,aL,Nat.succ_mul];have h1:=EY (y:=y) (r:=r) (x:=0);have h2:=B8 (y:=y+1) fun s hs=>h s (.tail _ hs);have h3:=h r (.head _);exact lin [(Ce y 0 r).length,r.length,(BF (y+1) G).length,G.length * w,w] [] (.b (.A V0 V2) (.A V3 V4)) [.b V0 V1,.b V2 V3,.d V1 V4] rfl h1 h2 h3
theorem Grid.cells{G:Gr}{w:Nat}(g:Grid G w):(Ae G).length<=36:=by
 have h1:=B8 (y:=0) g.len;have h2:G.length * w<=6 * 6:=dQ g.h6 g.w6;unfold Ae;exact lin [(BF 0 G).length,bR G * w] [] (.b V0 K36) [.b V0 V1,.b V1 (.M 6 K6)] rfl h1 h2
noncomputable def bit(r:List Bool)(x:Int):Prop:=0<=x/\r[x.toNat]?=some true
theorem rowC_mem{y:Int}{k:Sp}:∀{r:List Bool}{x:Int},k∈Ce y x r↔k.2=y/\bit r (k.1 - x)
 | [],x=>by
  constructor
  ·intro h;cases h
  ·rintro ⟨_,_,h⟩;cases h
 | b::r,x=>by
  have ih:=rowC_mem (y:=y) (k:=k) (r:=r) (x:=x+1);have key:k.2=y/\bit (b::r) (k.1 - x)↔(k=(x,y)/\b=true)\/(k.2=y/\bit r (k.1 - (x+1))):=by
   unfold bit
   by_cases e:k.1=x
   ·have e0:(k.1 - x).toNat=0:=by exact aw (lin [(k.fst - x).toNat] [k.fst,x] (.b V0 K0) [.h V0 V1,.h (.c V0) (.S V0 V1)] rfl e (au (lin [] [k.fst,x] (.f K0 (.S V0 V1)) [.H (-1) V0 V1] rfl e))) (lin [(k.fst - x).toNat] [] (.b K0 V0) [] rfl)
    rw [e0]
    constructor
    ·intro u
     refine Bp u fun h1 Z h2=>?_;exact .inl ⟨bH e h1,ar h2⟩
    ·rintro (⟨h1,h2⟩ | ⟨_,h2,_⟩)
     ·clear ih e e0;subst h1;subst h2;exact ⟨rfl,by exact lin [] [(x,y).fst] (.f K0 (.S V0 V0)) [] rfl,rfl⟩
     ·omega
   ·constructor
    ·intro u
     refine Bp u fun h1 h2 h3=>?_;refine .inr ⟨h1,by exact (aQ e).elim (fun z0=>lin [] [k.fst,x] (.F 0 K0 (.S V0 (.A V1 K1))) [.f K0 (.S V0 V1),.g V0 V1] rfl h2 z0) (fun z0=>lin [] [x,k.fst] (.f K0 (.S V1 (.A V0 K1))) [.g V0 V1] rfl z0),?_⟩
     rw [show (k.1 - x).toNat=(k.1 - (x+1)).toNat+1 by exact aw (lin [(k.fst - (x+1)).toNat,(k.fst - x).toNat] [k.fst,x] (.b V1 (.A V0 K1)) [.f (.S V0 (.A V1 K1)) (.c V0),.h (.c V1) (.S V0 V1)] rfl (aK (k.fst - (x+1))) (au (lin [] [k.fst,x] (.f K0 (.S V0 V1)) [.f K0 (.S V0 V1)] rfl h2))) ((aQ e).elim (fun z0=>lin [(k.fst - (x+1)).toNat,(k.fst - x).toNat] [k.fst,x] (.B 0 (.A V0 K1) V1) [.f K0 (.S V0 V1),.g V0 V1] rfl h2 z0) (fun z0=>lin [(k.fst - x).toNat,(k.fst - (x+1)).toNat] [k.fst,x] (.b (.A V1 K1) V0) [.f (.S V0 V1) (.c V0),.h (.c V1) (.S V0 (.A V1 K1))] rfl (aK (k.fst - x)) (au (lin [] [x,k.fst] (.f K0 (.S V1 (.A V0 K1))) [.g V0 V1] rfl z0))))] at h3
     exact h3
    ·rintro (⟨h1,_⟩ | ⟨h1,h2,h3⟩)
     ·exact absurd (congrArg fU h1) e
     ·refine ⟨h1,by exact lin [] [k.fst,x] (.f K0 (.S V0 V1)) [.f K0 (.S V0 (.A V1 K1))] rfl h2,?_⟩
      rw [show (k.1 - x).toNat=(k.1 - (x+1)).toNat+1 by exact aw (lin [(k.fst - (x+1)).toNat,(k.fst - x).toNat] [k.fst,x] (.b V1 (.A V0 K1)) [.f (.S V0 (.A V1 K1)) (.c V0),.h (.c V1) (.S V0 V1)] rfl (aK (k.fst - (x+1))) (au (lin [] [k.fst,x] (.f K0 (.S V0 V1)) [.f K0 (.S V0 (.A V1 K1))] rfl h2))) (lin [(k.fst - x).toNat,(k.fst - (x+1)).toNat] [k.fst,x] (.b (.A V1 K1) V0) [.f (.S V0 V1) (.c V0),.h (.c V1) (.S V0 (.A V1 K1))] rfl (aK (k.fst - x)) (au (lin [] [k.fst,x] (.f K0 (.S V0 (.A V1 K1))) [.f K0 (.S V0 (.A V1 K1))] rfl h2)))]
      exact h3
  rw [key,<- ih]
  cases b
  ·show k∈Ce y (x+1) r↔_
   simp
  ·show k∈(x,y)::Ce y (x+1) r↔_
   rw [aD];simp
noncomputable def has(G:Gr)(k:Sp):Prop:=0<=k.2/\∃r,G[k.2.toNat]?=some r/\bit r k.1
theorem cellsF_mem{k:Sp}:∀{G:Gr}{y:Int},k∈BF y G↔has G (k.1,k.2 - y)
 | [],y=>by
  constructor
  ·intro h;cases h
  ·rintro ⟨_,r,h,_⟩;cases h
 | r::G,y=>by
  rw [BF,aN,rowC_mem,cellsF_mem (G:=G)];unfold has;dsimp only;rw [iz]
  by_cases e:k.2=y
  ·have e0:(k.2 - y).toNat=0:=by exact aw (lin [(k.snd - y).toNat] [k.snd,y] (.b V0 K0) [.h V0 V1,.h (.c V0) (.S V0 V1)] rfl e (au (lin [] [k.snd,y] (.f K0 (.S V0 V1)) [.H (-1) V0 V1] rfl e))) (lin [(k.snd - y).toNat] [] (.b K0 V0) [] rfl)
   rw [e0]
   constructor
   ·rintro (⟨_,h⟩ | ⟨h,_⟩)
    ·exact ⟨by exact lin [] [k.snd,y] (.f K0 (.S V0 V1)) [.H (-1) V0 V1] rfl e,r,rfl,h⟩
    ·omega
   ·intro u
    refine Ao u fun Z Z0=>?_;refine X1pp Z0 fun r' h1 h2=>?_;exact .inl ⟨e,by rw [ar h1];exact h2⟩
  ·constructor
   ·rintro (⟨h,_⟩ | ⟨h,r',h1,h2⟩)
    ·exact absurd h e
    ·refine ⟨by exact lin [] [k.snd,y] (.f K0 (.S V0 V1)) [.f K0 (.S V0 (.A V1 K1))] rfl h,r',?_,h2⟩
     rw [show (k.2 - y).toNat=(k.2 - (y+1)).toNat+1 by exact aw (lin [(k.snd - (y+1)).toNat,(k.snd - y).toNat] [k.snd,y] (.b V1 (.A V0 K1)) [.f (.S V0 (.A V1 K1)) (.c V0),.h (.c V1) (.S V0 V1)] rfl (aK (k.snd - (y+1))) (au (lin [] [k.snd,y] (.f K0 (.S V0 V1)) [.f K0 (.S V0 (.A V1 K1))] rfl h))) (lin [(k.snd - y).toNat,(k.snd - (y+1)).toNat] [k.snd,y] (.b (.A V1 K1) V0) [.f (.S V0 V1) (.c V0),.h (.c V1) (.S V0 (.A V1 K1))] rfl (aK (k.snd - y)) (au (lin [] [k.snd,y] (.f K0 (.S V0 (.A V1 K1))) [.f K0 (.S V0 (.A V1 K1))] rfl h)))];exact h1
   ·intro u
    refine Ao u fun h Z1=>?_;refine X1pp Z1 fun r' h1 h2=>?_;refine .inr ⟨by exact (aQ e).elim (fun z0=>lin [] [k.snd,y] (.F 0 K0 (.S V0 (.A V1 K1))) [.f K0 (.S V0 V1),.g V0 V1] rfl h z0) (fun z0=>lin [] [y,k.snd] (.f K0 (.S V1 (.A V0 K1))) [.g V0 V1] rfl z0),r',?_,h2⟩
    rw [show (k.2 - y).toNat=(k.2 - (y+1)).toNat+1 by exact aw (lin [(k.snd - (y+1)).toNat,(k.snd - y).toNat] [k.snd,y] (.b V1 (.A V0 K1)) [.f (.S V0 (.A V1 K1)) (.c V0),.h (.c V1) (.S V0 V1)] rfl (aK (k.snd - (y+1))) (au (lin [] [k.snd,y] (.f K0 (.S V0 V1)) [.f K0 (.S V0 V1)] rfl h))) ((aQ e).elim (fun z0=>lin [(k.snd - (y+1)).toNat,(k.snd - y).toNat] [k.snd,y] (.B 0 (.A V0 K1) V1) [.f K0 (.S V0 V1),.g V0 V1] rfl h z0) (fun z0=>lin [(k.snd - y).toNat,(k.snd - (y+1)).toNat] [k.snd,y] (.b (.A V1 K1) V0) [.f (.S V0 V1) (.c V0),.h (.c V1) (.S V0 (.A V1 K1))] rfl (aK (k.snd - y)) (au (lin [] [y,k.snd] (.f K0 (.S V1 (.A V0 K1))) [.g V0 V1] rfl z0))))] at h1;exact h1
theorem cellsOf_mem{G:Gr}{k:Sp}:k∈Ae G↔has G k:=by
 unfold Ae;rw [cellsF_mem,iz]
theorem Grid.in{G:Gr}{w:Nat}(g:Grid G w){k:Sp}(h:k∈Ae G):0<=k.1/\k.1<w/\0<=k.2/\k.2<G.length:=by
 refine Ao (cellsOf_mem.mp h) fun h1 Z0=>?_;refine X1ppp Z0 fun r h2 h3 h4=>?_;have e1:k.2.toNat<G.length:=by
  rcases bJ k.2.toNat G.length with z | z
  ·exact z
  ·rw [ba z] at h2;cases h2
 have e2:k.1.toNat<r.length:=by
  rcases bJ k.1.toNat r.length with z | z
  ·exact z
  ·rw [ba z] at h4;cases h4
 rw [g.len r (af h2)] at e2;exact ⟨lin [] [k.fst] (.f K0 V0) [.f K0 V0] rfl h3,⟨lin [k.fst.toNat,w] [k.fst] (.g V0 (.c V1)) [.c V0 V1,.f V0 (.c V0)] rfl e2 (aK k.fst),⟨lin [] [k.snd] (.f K0 V0) [.f K0 V0] rfl h1,lin [k.snd.toNat,bR G] [k.snd] (.g V0 (.c V1)) [.c V0 V1,.f V0 (.c V0)] rfl e1 (aK k.snd)⟩⟩⟩
end
section
noncomputable def F8:Aq:=⟨[1069911684040970207347,527765816213619,1023794753487939567732],1,[.ite (.or [(.not (.call (.g 1) [(.v 0),(.g 5)])),(.not (.cmp2 .LtE .LtE (.int 1) (.call (.g 0) [(.v 0)]) (.g 28)))]) [.ret (.bool false)] [],.for_ (.v 1) (.v 0) [.ite (.or [(.not (.call (.g 1) [(.v 1),(.g 6)])),(.not (.cmp2 .LtE .LtE (.int 1) (.call (.g 0) [(.v 1)]) (.g 28)))]) [.ret (.bool false)] []],.for_ (.v 1) (.v 0) [.ite (.or [(.cmp .NotEq (.call (.g 0) [(.v 1)]) (.call (.g 0) [(.sub (.v 0) (.int 0))])),(.not (.call (.g 15) [(.comp (.cmp .In (.v 2) (.tup [(.str "#"),(.str ".")])) 2 (.v 1) [])]))]) [.ret (.bool false)] []],.ret (.call (.g 16) [(.comp (.cmp .In (.str "#") (.v 1)) 1 (.v 0) [])])]⟩
noncomputable def c_Finit:Aq:=⟨[950007799183325528180,1069911684040970207347,122,527765816213619,121,1023794753487939567732,4097048886990981419611689351905378],2,[.ite (.not (.call (.g 36) [(.v 1)])) [.raise (.call (.g 19) [(.str "no rows of a floor")])] [],.setattr (.v 0) 11 (.call (.g 5) [(.v 1)]),.setattr (.v 0) 12 (.mu 2 (.dict [] [])),.for_ (.tup [(.v 2),(.v 3)]) (.call (.g 9) [(.v 1)]) [.for_ (.tup [(.v 4),(.v 5)]) (.call (.g 9) [(.v 3)]) [.ite (.cmp .Eq (.v 5) (.str "#")) [.setitem (.attr (.v 0) 12) (.tup [(.v 4),(.v 2)]) (.bool true)] []]],.ite (.cmp .NotEq (.call (.g 0) [(.call (.g 35) [(.sub (.call (.g 5) [(.attr (.v 0) 12)]) (.int 0)),(.attr (.v 0) 12)])]) (.call (.g 0) [(.attr (.v 0) 12)])) [.raise (.call (.g 20) [(.str "the cells don't hang together")])] [],.assign (.v 6) (.meth (.v 0) 13 []),.ite (.cmp .NotEq (.call (.g 0) [(.call (.g 35) [(.tup [(.neg (.int 1)),(.neg (.int 1))]),(.v 6)])]) (.call (.g 0) [(.v 6)])) [.raise (.call (.g 21) [(.str "the floor has a hole")])] []]⟩
noncomputable def F9:Aq:=⟨[950007799183325528180,1953625148292055806928486503,122,121],1,[.assign (.v 1) (.mu 4 (.dict [] [])),.for_ (.v 2) (.call (.g 8) [(.neg (.int 1)),(.bin .Add (.call (.g 0) [(.attr (.v 0) 11)]) (.int 1))]) [.for_ (.v 3) (.call (.g 8) [(.neg (.int 1)),(.bin .Add (.call (.g 0) [(.sub (.attr (.v 0) 11) (.int 0))]) (.int 1))]) [.ite (.cmp .NotIn (.tup [(.v 3),(.v 2)]) (.attr (.v 0) 12)) [.setitem (.v 1) (.tup [(.v 3),(.v 2)]) (.bool true)] []]],.ret (.v 1)]⟩
noncomputable def Ch:Aq:=⟨[43400774030903411559313583009360306713791419551580256,21408724918500336958217017566162088846755364960,4908344980994869975741078519677024],1,[.ret (.comp (.meth (.str "") 8 [(.comp (.sub (.v 1) (.v 2)) 1 (.v 0) [])]) 2 (.call (.g 8) [(.call (.g 0) [(.sub (.v 0) (.int 0))])]) [])]⟩
noncomputable def EI:Aq:=⟨[40781761134340005352671968699721311000275178949181536,38162751270679647559043826811439900761170624565477472,41530048723813142729217903034956150661808146096324704,82387004051865245371686842551052123159162781809304687083616,43400774030903411559313583009360306713791419551580256,21408724918500093569301773746117001479739932768,39285182565683693105776214804091086361059948067029088,4948909800202173316588973022249056,189233104125022861345122375117010683388186817415792500651818221664,38162752697926829841696715377274495193841980311339104,91802656280800312142504332077630959006909194449134567817312,87094826237817180438285548473054639082591576189006493253728],3,[.assign (.v 3) (.bin .Add (.int 2) (.bin .Mod (.v 0) (.int 5))),.assign (.v 4) (.mu 4 (.list [])),.assign (.tup [(.v 5),(.v 6)]) (.tup [(.int 0),(.bin .Sub (.v 3) (.int 1))]),.for_ (.v 7) (.call (.g 8) [(.bin .Add (.int 1) (.bin .Mod (.bin .FloorDiv (.v 0) (.int 5)) (.int 6)))]) [.assign (.v 8) (.call (.g 73) [(.v 1),(.v 7)]),.assign (.v 9) (.ite (.v 2) (.bin .Mult (.int 2) (.bin .Add (.int 1) (.bin .Mod (.v 8) (.bin .FloorDiv (.v 3) (.int 2))))) (.bin .Add (.int 1) (.bin .Mod (.v 8) (.v 3)))),.assign (.v 10) (.call (.g 14) [(.int 0),(.bin .Add (.bin .Sub (.v 5) (.v 9)) (.int 1))]),.assign (.v 11) (.bin .Add (.v 10) (.bin .Mod (.bin .FloorDiv (.v 8) (.int 30)) (.bin .Add (.bin .Sub (.call (.g 13) [(.bin .Sub (.v 3) (.v 9)),(.v 6)]) (.v 10)) (.int 1)))),.expr (.meth (.v 4) 0 [(.bin .Add (.bin .Add (.bin .Mult (.str ".") (.v 11)) (.bin .Mult (.str "#") (.v 9))) (.bin .Mult (.str ".") (.bin .Sub (.bin .Sub (.v 3) (.v 11)) (.v 9))))]),.assign (.tup [(.v 5),(.v 6)]) (.tup [(.v 11),(.bin .Sub (.bin .Add (.v 11) (.v 9)) (.int 1))])],.ret (.v 4)]⟩
theorem sign_in(b:Bool):InP (.str ⟨#[sgn b]⟩) (.tup [.str "#",.str "."]) true:=by
 cases b
 ·exact ⟨_,_,rfl,.inr rfl,by decide +kernel,by decide +kernel,by decide +kernel,by decide +kernel⟩
 ·exact ⟨_,_,rfl,.inr rfl,by decide +kernel,by decide +kernel,by decide +kernel,by decide +kernel⟩
theorem DA(r:List Bool):C3 (B5 r)=r.map fun b=>.str ⟨#[sgn b]⟩:=by
 unfold C3 B5;show ((r.map sgn).map _)=_;rw [bc];rfl
inductive LU(avs:List AV)(V:LS)(K:KR):Prop
 | mk (a:_)(G:Gr)(w:_)(c0:avs=[.loc a 0])(c1:V=[.at a (.list (AC G))])(c2:Grid G w)(c3:(G.any fun r=>r.any id)=true)(c4:K ⟨[],.val (.bool true)⟩ [.at a (.list (AC G))]):LU avs V K
noncomputable def fArows:FS:=specF fun avs V K X=>LU avs V K
noncomputable def arM(a:Addr)(x:Option AV):M:=[some (.loc a 0),x,aa]
noncomputable def arL(a:Addr)(G:Gr):LS:=[.at a (.list (AC G))]
inductive ArwJ(a:Addr)(G:Gr)(d r:Gr):M->LS->Prop
 | mk (hs:∀x∈r,x∈G)(x:Option AV):ArwJ a G d r (arM a x) (arL a G)
noncomputable abbrev tAr:Tab:=⟨true,[28],[],[],[]⟩
theorem Grid.fst{G:Gr}{w:Nat}(g:Grid G w):∃r0,(AC G)[0]?=some (.str (B5 r0))/\r0.length=w:=by
 have h1:=g.h1;have len:=g.len;clear g
 cases G with
 | nil=>exact absurd h1 (by decide)
 | cons r0 G=>exact ⟨r0,rfl,len r0 (.head _)⟩
theorem GA{r:List Bool}{w:Nat}(e:r.length=w)(h:w<=6):(B5 r).length<=big:=by rw [AY,e];exact Ar (aB h (by decide))
theorem arows_1{X:XL}{KK:KS}{a:Addr}{G d s:Gr}{r:List Bool}{w:Nat}{m:M}{V:LS}{C:M->LS->Prop}(g:Grid G w)(j:ArwJ a G d (r::s) m V)(hC:∀As Ab,ArwJ a G (d++[r]) s As Ab->C As Ab) :
  patW true (.v 1) (.str (B5 r)) m (fun Am=>wpSs tAr [.ite (.or [(.not (.call (.g 1) [(.v 1),(.g 6)])),(.not (.cmp2 .LtE .LtE (.int 1) (.call (.g 0) [(.v 1)]) (.g 28)))]) [.ret (.bool false)] []] X Am V (Ex (some 0) V C KK)):=by
 cases j with
 | mk hs x =>
  have lr:=g.len r (hs r (.head _));have w6:=g.w6;have w1:=g.w1;exact ⟨GA lr w6,ifT (by rw [AY,decide_eq_true_eq];exact lin [r.length,w] [] (.f K1 (.c V0)) [.D (-1) V0 V1,.b K1 V1] rfl lr w1) (ifF (by rw [AY,Bool.not_eq_false',decide_eq_true_eq];exact lin [r.length,w] [] (.f (.c V0) K6) [.d V0 V1,.b V1 K6] rfl lr w6) ⟨rfl,hC _ _ (.mk (fun y hy=>hs y (.tail _ hy)) _)⟩)⟩
theorem arows_2{X:XL}{KK:KS}{a:Addr}{G d s:Gr}{r:List Bool}{w:Nat}{m:M}{V:LS}{C:M->LS->Prop}(g:Grid G w)(j:ArwJ a G d (r::s) m V)(hC:∀As Ab,ArwJ a G (d++[r]) s As Ab->C As Ab) :
  patW true (.v 1) (.str (B5 r)) m (fun Am=>wpSs tAr [.ite (.or [(.cmp .NotEq (.call (.g 0) [(.v 1)]) (.call (.g 0) [(.sub (.v 0) (.int 0))])),(.not (.call (.g 15) [(.comp (.cmp .In (.v 2) (.tup [(.str "#"),(.str ".")])) 2 (.v 1) [])]))]) [.ret (.bool false)] []] X Am V (Ex (some 0) V C KK)):=by
 cases j with
 | mk hs x =>
  have lr:=g.len r (hs r (.head _));have w6:=g.w6;refine X1pp g.fst fun r0 e0 l0=>?_;refine ⟨GA lr w6,rfl,_,e0,GA l0 w6,ifF (by rw [AY,AY,lr,l0,beq_self_eq_true];rfl) ?_⟩
  refine ⟨Eo r,Ar (by rw [DA,aj,lr];exact aB w6 (by decide)),?_⟩
  refine BZ (r:=r) (g:=fun b=>.str ⟨#[sgn b]⟩) (f:=fun Z=>.bool true) (DA r) (fun b hb C h=>⟨_,sign_in b,h⟩) ?_;refine ⟨r.map fun Z=>true,by rw [bc];rfl,?_⟩
  rw [List.all_map,show (r.all (id ∘ fun Z=>true))=true by simp]
  exact ⟨rfl,hC _ _ (.mk (fun y hy=>hs y (.tail _ hy)) _)⟩
theorem arows_ok:FnOk tAr F8 .val 2 0 fArows:=by
 refine .specF fun u V K X h=>?_;obtain ⟨a,G,w,rfl,rfl,g,hc,hK⟩:=h;have hl:(AC G).length=G.length:=by unfold AC;rw [aj]
 have h1:=g.h1;have h6:=g.h6;have hb:(AC G).length<=big:=by rw [hl];exact Ar (aB h6 (by decide))
 refine ⟨rfl,rfl,rfl,hb,ifT (by rw [hl,decide_eq_true_eq];exact lin [bR G] [] (.f K1 (.c V0)) [.b K1 V0] rfl h1) (ifF (by rw [hl,Bool.not_eq_false',decide_eq_true_eq];exact lin [bR G] [] (.f (.c V0) K6) [.b V0 K6] rfl h6) ⟨rfl,?_⟩)⟩
 refine AQ (r:=G) (g:=fun r=>.str (B5 r)) rfl (ArwJ a G) (fun d m V j=>?_) (fun d r s m V j C hC=>arows_1 g j hC) (d:=[]) (.mk (fun Z h=>h) _)
 cases j with
 | mk _ x =>
  refine ⟨rfl,?_⟩;refine AQ (r:=G) (g:=fun r=>.str (B5 r)) rfl (ArwJ a G) (fun d m V j=>?_) (fun d r s m V j C hC=>arows_2 g j hC) (d:=[]) (.mk (fun Z h=>h) _)
  cases j with
  | mk _ x =>
   refine ⟨rfl,hb,?_⟩;refine BZ (r:=G) (g:=fun r=>.str (B5 r)) (f:=fun r=>.bool (r.any id)) rfl (fun r hr C h=>⟨_,JJ r,h⟩) ?_;refine ⟨G.map fun r=>r.any id,by rw [bc];rfl,?_⟩
   rw [List.any_map,show (id ∘ fun r:List Bool=>r.any id)=fun r=>r.any id from rfl,hc]
   exact hK
end
section
noncomputable def I4(i:Nat):List AV->List AV
 | []=>[]
 | x::r=>.tup [.int i,x]::I4 (i+1) r
theorem Dj:∀(l:List AV)(i:Nat),(l.mapIdx fun j x=>(.tup [.int ((i+j:Nat):Int),x]:AV))=I4 i l
 | [],_=>rfl
 | x::r,i=>by
  rw [List.mapIdx_cons];have ih:=Dj r (i+1);rw [I4,<- ih,Nat.add_zero]
  congr 1
  apply d7;intro j;rw [fM,fM]
  congr 1
  funext y
  congr 3
  exact ah (lin [i,j] [] (.f (.c (.A V0 (.A V1 K1))) (.c (.A (.A V0 K1) V1))) [] rfl) (lin [i,j] [] (.f (.c (.A (.A V0 K1) V1)) (.c (.A V0 (.A V1 K1)))) [] rfl)
theorem GW(l:List AV):Cp l=I4 0 l:=by
 rw [<- Dj l 0];unfold Cp
 simp
set_option tactic.hygienic true in
theorem Fa{α:Type}{g:α->AV}{q:Bool}{p:Pat}{body:M->LS->KS->Prop}{ok:Option Nat}{K:KS}(J:List α->List α->M->LS->Prop)(he:∀d m V,J d [] m V->K .next m V)
  (hs:∀d x r m V,J d (x::r) m V->∀C:M->LS->Prop,(∀As Ab,J (d++[x]) r As Ab->C As Ab)->patW q p (.tup [.int d.length,g x]) m (fun Am=>body Am V (Ex ok V C K))):∀{r d:List α}{m:M}{V:LS},J d r m V->I2 q p body ok K (I4 d.length (r.map g)) m V
 | [],d,m,V,h=>he d m V h
 | x::r,d,m,V,h=>hs d x r m V h (I2 q p body ok K (I4 (d.length+1) (r.map g))) fun As Ab h=>by
  have:=Fa J he hs h
  rw [ao] at this;exact this
theorem FC{y:Int}{b:Bool}:∀{e:List Bool}{x:Int},Ce y x (e++[b])=Ce y x e++Ce y (x+e.length) [b]
 | [],x=>by rw [ga,de];show _=Ce y (x+0) [b];rw [bB]
 | c::e,x=>by
  have ih:=FC (y:=y) (b:=b) (e:=e) (x:=x+1);rw [aL,show x+((e.length+1:Nat):Int)=x+1+e.length by exact ah (lin [e.length] [x] (.f (.A V0 (.c (.A V0 K1))) (.A (.A V0 K1) (.c V0))) [] rfl) (lin [e.length] [x] (.f (.A (.A V0 K1) (.c V0)) (.A V0 (.c (.A V0 K1)))) [] rfl)]
  cases c
  ·exact ih
  ·show (x,y)::Ce y (x+1) (e++[b])=(x,y)::(Ce y (x+1) e++_)
   rw [ih]
theorem Cr{r:List Bool}:∀{d:Gr}{y:Int},BF y (d++[r])=BF y d++Ce (y+d.length) 0 r
 | [],y=>by
  rw [ga];show Ce y 0 r++[]=[]++Ce (y+0) 0 r;rw [aM,bB];rfl
 | c::d,y=>by
  have ih:=Cr (r:=r) (d:=d) (y:=y+1);rw [aL,show y+((d.length+1:Nat):Int)=y+1+d.length by exact ah (lin [d.length] [y] (.f (.A V0 (.c (.A V0 K1))) (.A (.A V0 K1) (.c V0))) [] rfl) (lin [d.length] [y] (.f (.A (.A V0 K1) (.c V0)) (.A V0 (.c (.A V0 K1)))) [] rfl)]
  show Ce y 0 c++BF (y+1) (d++[r])=(Ce y 0 c++BF (y+1) d)++_;rw [ih,aI]
theorem IZ{d:Gr}{e:List Bool}:(((e.length:Int),(d.length:Int)):Af)∉Ae d++Ce d.length 0 e:=by
 intro h
 rcases aN.mp h with h | h
 ·refine Ao (cellsOf_mem.mp h) fun Z Z0=>?_
  refine X1pp Z0 fun r h1 Z=>?_;rw [show ((e.length:Int),(d.length:Int)).2.toNat=d.length from bZ _,ba (ay _)] at h1
  cases h1
 ·refine Bp (rowC_mem.mp h) fun Z Z h1=>?_
  rw [show (((e.length:Int),(d.length:Int)).1 - 0).toNat=e.length by show ((e.length:Int) - 0).toNat=_;omega,ba (ay _)] at h1
  cases h1
noncomputable def Ca(P vs:List Af):List Af:=(vs.filter fun k=>!decide (k∈P)).foldl ins []
theorem KN{P vs:List Af}{k:Af}:k∈Ca P vs↔k∈vs/\k∉P:=by
 unfold Ca;rw [BL,dD]
 simp
theorem DO{P vs:List Af}:(Ca P vs).Nodup:=Bd fm
theorem freeF_in{P vs:List Af}{k:Af}(h:k∈P):Ca P (vs++[k])=Ca P vs:=by
 unfold Ca;rw [List.filter_append,List.filter_cons_of_neg (by simp [h]),iB,aM]
theorem KM{P vs:List Af}{k:Af}(h:k∉P):Ca P (vs++[k])=ins (Ca P vs) k:=by
 unfold Ca;rw [List.filter_append,List.filter_cons_of_pos (by simp [h]),iB,gP];rfl
theorem FR{P vs:List Af}:(Ca P vs).length<=vs.length:=by
 unfold Ca;have h1:=CI (ks:=vs.filter fun k=>!decide (k∈P)) (fs:=[]);have h2:=d5 (fun k=>!decide (k∈P)) vs;rw [de] at h1;exact lin [(iy ins [] (List.filter (fun k=>!decide (k∈P)) vs)).length,(List.filter (fun k=>!decide (k∈P)) vs).length,vs.length] [] (.b V0 V2) [.b V0 (.A K0 V1),.b V1 V2] rfl h1 h2
noncomputable def box(xs ys:List Int):List Af:=ys.flatMap fun y=>xs.map fun x=>(x,y)
theorem G6(xs ys:List Int):(box xs ys).length=ys.length * xs.length:=by
 unfold box
 induction ys with
 | nil=>simp
 | cons y ys ih=>rw [List.flatMap_cons,ao,ih,aj,aL,Nat.succ_mul,iA]
theorem box_mem{xs ys:List Int}{k:Af}:k∈box xs ys↔k.1∈xs/\k.2∈ys:=by
 unfold box;rw [eA]
 constructor
 ·intro u
  refine X1pp u fun y hy h=>?_;refine X1pr k (aZ.mp h) fun x hx=>?_;exact ⟨hx,hy⟩
 ·intro u
  refine Ao u fun hx hy=>?_;exact ⟨k.2,hy,aZ.mpr ⟨k.1,hx,rfl⟩⟩
theorem box_snoc(xs ys:List Int)(y:Int):box xs (ys++[y])=box xs ys++xs.map fun x=>(x,y):=by
 unfold box;rw [gh];simp
noncomputable def AK(P:List Af)(w h:Nat):List Af:=Ca P (box (ivs (-1) (w+2)) (ivs (-1) (h+2)))
theorem around_mem{P:List Af}{w h:Nat}{k:Af}:k∈AK P w h↔((-1<=k.1/\k.1<=w)/\(-1<=k.2/\k.2<=h))/\k∉P:=by
 unfold AK;rw [KN,box_mem,ivs_mem,ivs_mem]
 constructor
 ·intro u
  obtain ⟨⟨⟨h1,h2⟩,h3,h4⟩,hn⟩:=u;exact ⟨by exact ⟨⟨lin [] [k.fst] (.f Km1 V0) [.f Km1 V0] rfl h1,lin [w] [k.fst] (.f V0 (.c V0)) [.g V0 (.A Km1 (.c (.A V0 K2)))] rfl h2⟩,⟨lin [] [k.snd] (.f Km1 V0) [.f Km1 V0] rfl h3,lin [h] [k.snd] (.f V0 (.c V0)) [.g V0 (.A Km1 (.c (.A V0 K2)))] rfl h4⟩⟩,hn⟩
 ·intro u
  obtain ⟨⟨⟨h1,h2⟩,h3,h4⟩,hn⟩:=u;exact ⟨by exact ⟨⟨lin [] [k.fst] (.f Km1 V0) [.f Km1 V0] rfl h1,lin [w] [k.fst] (.g V0 (.A Km1 (.c (.A V0 K2)))) [.f V0 (.c V0)] rfl h2⟩,⟨lin [] [k.snd] (.f Km1 V0) [.f Km1 V0] rfl h3,lin [h] [k.snd] (.g V0 (.A Km1 (.c (.A V0 K2)))) [.f V0 (.c V0)] rfl h4⟩⟩,hn⟩
theorem Jd{P:List Af}{G:Gr}{w:Nat}(g:Grid G w):(AK P w G.length).length<=64:=by
 refine aB FR ?_;rw [G6,AA,AA];exact dQ (show G.length+2<=8 by have:=g.h6;exact lin [bR G] [] (.b (.A V0 K2) K8) [.b V0 K6] rfl this) (show w+2<=8 by have:=g.w6;exact lin [w] [] (.b (.A V0 K2) K8) [.b V0 K6] rfl this)
inductive Io(avs:List AV)(V:LS)(K:KR):Prop
 | mk (x:_)(dx:_)(o:_)(G:Gr)(w:_)(P:List Sp)(tl:_)(c0:avs=[.loc x 0])(c1:V=[.at x (.inst dx),.at dx (.attrs (Ft (.list (AC G)) (.loc o 2))),.at o (.dict (tt P)),tl])(c2:Grid G w)(c3:K ⟨[.dict (tt (AK P w G.length))],.new 0⟩ V):Io avs V K
noncomputable def Lf:FS:=⟨fun Z=>aa,fun avs V K X=>Io avs V K,true⟩
theorem Grid.first{G:Gr}{w:Nat}(g:Grid G w):∃r0,G[0]?=some r0/\r0.length=w:=by
 have h1:=g.h1;have len:=g.len;clear g
 cases G with
 | nil=>exact absurd h1 (by decide)
 | cons r0 G=>exact ⟨r0,rfl,len r0 (.head _)⟩
theorem gridA_at{G:Gr}{n:Nat}{r:List Bool}(h:G[n]?=some r):(AC G)[n]?=some (.str (B5 r)):=by
 unfold AC;rw [aW,h];rfl
theorem CH{G:Gr}{w:Nat}(g:Grid G w):(AC G).length<=1000:=by
 unfold AC;rw [aj];exact aB g.h6 (by decide)
theorem HN(G:Gr):(AC G).length=G.length:=by unfold AC;rw [aj]
theorem rowS_big{r:List Bool}{w:Nat}(e:r.length=w)(h:w<=6):(B5 r).length<=big:=by
 rw [AY,e];exact Ar (aB h (by decide))
theorem Fz{n:Nat}(h:n<=6):cg (-1) ((n:Int)+1) 1=true:=Cx (by decide) (by decide) (by exact lin [n] [] (.f Bk (.A (.c V0) K1)) [] rfl) (by exact lin [n] [] (.f (.A (.c V0) K1) Az) [.b V0 K6] rfl h)
theorem JM(n:Nat):AU (-1) 1 (A9 (-1) ((n:Int)+1) 1)=(ivs (-1) (n+2)).map .int:=by
 rw [JN,show ((n:Int)+1 - -1)=((n+2:Nat):Int) by exact ah (lin [n] [] (.f (.S (.A (.c V0) K1) Km1) (.c (.A V0 K2))) [] rfl) (lin [n] [] (.f (.c (.A V0 K2)) (.S (.A (.c V0) K1) Km1)) [] rfl),bZ]
noncomputable abbrev arS'(x dx o a:Addr)(G:Gr)(P:List Af)(tl:Slot)(F:List (Af×AV)):LS:=[.at x (.inst dx),.at dx (.attrs (Ft (.list (AC G)) (.loc o 2))),.at o (.dict (tt P)),tl,.at a (.dict F)]
noncomputable abbrev arS(x dx o a:Addr)(G:Gr)(P:List Af)(tl:Slot)(F:List Af):LS:=[.at x (.inst dx),.at dx (.attrs (Ft (.list (AC G)) (.loc o 2))),.at o (.dict (tt P)),tl,.at a (.dict (tt F))]
inductive ArJ(x dx o a:Addr)(G:Gr)(w:Nat)(P:List Af)(tl:Slot)(d r:List Int):M->LS->Prop
 | mk (hd:d++r=ivs (-1) (G.length+2))(u v:Option AV):ArJ x dx o a G w P tl d r [some (.loc x 0),some (.loc a 4),u,v] (arS x dx o a G P tl (Ca P (box (ivs (-1) (w+2)) d)))
inductive ArI(x dx o a:Addr)(G:Gr)(w:Nat)(P:List Af)(tl:Slot)(y:Int)(B:List Af)(d r:List Int):M->LS->Prop
 | mk (hd:d++r=ivs (-1) (w+2))(v:Option AV):ArI x dx o a G w P tl y B d r [some (.loc x 0),some (.loc a 4),some (.int y),v] (arS x dx o a G P tl (Ca P (B++d.map fun x=>(x,y))))
theorem HA{a:Int}{n:Nat}{d r:List Int}{x:Int}(h:d++x::r=ivs a n):d.length<n:=by
 have:=congrArg bR h
 rw [ao,aL,AA] at this;exact lin [d.length,r.length,n] [] (.c V0 V2) [.d (.A V0 (.A V1 K1)) V2] rfl this
theorem G8{ex:List Nat}{X:XL}{x dx o a:Addr}{G:Gr}{w:Nat}{P:List Af}{tl:Slot}{y z:Int}{B:List Af}{d r:List Int}{m:M}{V:LS}{C:M->LS->Prop}{KK:KS}(hB:B.length+w+2<=1000)(j:ArI x dx o a G w P tl y B d (z::r) m V)(hC:∀As Ab,ArI x dx o a G w P tl y B (d++[z]) r As Ab->C As Ab) :
  wpSs ⟨true,ex,[],[],[]⟩ [.ite (.cmp .NotIn (.tup [(.v 3),(.v 2)]) (.attr (.v 0) 12)) [.setitem (.v 1) (.tup [(.v 3),(.v 2)]) (.bool true)] []] X (FA m 3 (.int z)) V (Ex aa V C KK):=by
 cases j with
 | mk hd v =>
  have hl:=HA hd;refine ⟨⟨rfl,rfl,rfl,rfl⟩,rfl,_,⟨rfl,Cq P (z,y)⟩,?_⟩;have e:B++(d++[z]).map (fun x=>(x,y))=(B++d.map fun x=>(x,y))++[(z,y)]:=by rw [aP,<- aI];rfl
  have go:∀F,F=Ca P (B++(d++[z]).map fun x=>(x,y))->C [some (.loc x 0),some (.loc a 4),some (.int y),some (.int z)] (arS x dx o a G P tl F):=fun F hF=>by
   subst hF;exact hC _ _ (.mk (by rw [aI];exact hd) _)
  rw [e] at go
  by_cases hz:(z,y)∈P
  ·exact ifF (by rw [decide_eq_true hz];rfl) (go _ (freeF_in hz).symm)
  ·refine ifT (by rw [decide_eq_false hz];rfl) ⟨rfl,Ar ?_,?_⟩
   ·rw [BO]
    refine aB FR ?_;rw [ao,aj];clear go e hd;exact lin [B.length,w,d.length] [] (.b (.A V0 V2) AE) [.b (.A (.A V0 V1) K2) AE,.c V2 (.A V1 K2)] rfl hB hl
   ·have:=go _ (KM hz).symm
    show C _ (arS' x dx o a G P tl (Bo (tt (Ca P (B++d.map fun x=>(x,y)))) (z,y) (.bool true)));rw [H3 DO];exact this
theorem LG{ex:List Nat}:FnOk ⟨true,ex,[],[],[]⟩ F9 .new 3 1 Lf:=by
 refine ⟨fun U V K X h=>?_,fun Z Z h=>by cases h⟩
 obtain ⟨x,dx,o,G,w,P,tl,rfl,rfl,g,hK⟩:=h;have h6:=g.h6;have w6:=g.w6;refine X1pp g.first fun r0 e0 l0=>?_
 refine ⟨rfl,fun a=>⟨⟨rfl,rfl,rfl,rfl⟩,rfl,Ar (CH g),?_⟩⟩;refine ⟨by rw [HN];exact Fz h6,?_⟩
 refine AQ (g:=.int) ((congrArg (fun n:Nat=>AU (-1) 1 (A9 (-1) ((n:Int)+1) 1)) (HN G)).trans (JM _)) (ArJ x dx o a G w P tl) ?_ ?_ (d:=[]) (.mk rfl _ _)
 ·intro d m V j
  cases j with
  | mk hd u v =>
   rw [aM] at hd;subst hd;exact ⟨rfl,hK⟩
 ·intro d y r m V j C hC
  cases j with
  | mk hd u v =>
   have hl:=HA hd;refine ⟨⟨rfl,rfl,rfl,rfl⟩,rfl,_,gridA_at e0,rowS_big l0 w6,?_⟩;refine ⟨by rw [AY,l0];exact Fz w6,?_⟩
   have hB:(box (ivs (-1) (w+2)) d).length+w+2<=1000:=by
    rw [G6,AA]
    have:d.length * (w+2)<=8 * 8:=dQ (by clear hd e0 l0;exact lin [bR G,d.length] [] (.b V1 K8) [.b V0 K6,.c V1 (.A V0 K2)] rfl h6 hl) (by clear hd e0 l0;exact lin [w] [] (.b (.A V0 K2) K8) [.b V0 K6] rfl w6)
    clear hd e0 l0;exact lin [w,d.length * (w+2)] [] (.b (.A (.A V1 V0) K2) AE) [.b V0 K6,.b V1 (.M 8 K8)] rfl w6 this
   refine AQ (g:=.int) ((congrArg (fun n:Nat=>AU (-1) 1 (A9 (-1) ((n:Int)+1) 1)) ((AY r0).trans l0)).trans (JM _)) (ArI x dx o a G w P tl y (box (ivs (-1) (w+2)) d)) ?_ ?_ (d:=[]) ?_
   ·intro e m V j
    cases j with
    | mk he v =>
     rw [aM] at he;subst he;rw [<- box_snoc];exact hC _ _ (.mk (by rw [aI];exact hd) _ _)
   ·intro e z s m V j C hC
    exact G8 hB j hC
   ·have:=ArI.mk (x:=x) (dx:=dx) (o:=o) (a:=a) (G:=G) (w:=w) (P:=P) (tl:=tl) (y:=y) (B:=box (ivs (-1) (w+2)) d) (d:=[]) (r:=ivs (-1) (w+2)) rfl v
    rw [List.map_nil,aM] at this;exact this
theorem KD(b:Bool):EqP (.str ⟨#[sgn b]⟩) (.str "#") b:=by
 cases b
 ·exact .py ⟨_,_,rfl,rfl,by decide +kernel,by decide +kernel,by decide +kernel⟩
 ·exact .py ⟨_,_,rfl,rfl,by decide +kernel,by decide +kernel,by decide +kernel⟩
theorem fset_fl(t o:AV):Jh (Jh [] (fld 11) t) (fld 12) o=Ft t o:=by
 show (if (("texts":Str) == ("own":Str))=true then _ else _)=_;rw [if_neg (by decide +kernel)]
 rfl
noncomputable def Hangs(P:List Af)(a:Af):Prop:=∀k∈P,Reach P a k
theorem Hangs.len{P fs:List Af}{a:Af}(h:Hangs P a)(ha:a∈P)(n:P.Nodup)(c:Comp P a fs):fs.length=P.length :=
 same_length c.1 n fun k=>(c.2 k).trans ⟨fun q=>q.mem.elim (fun e=>e▸ha) id,h k⟩
theorem JK{y:Int}:∀{r:List Bool}{x:Int},(Ce y x r).Pairwise lt2
 | [],_=>.nil
 | b::r,x=>by
  have ih:=JK (y:=y) (r:=r) (x:=x+1)
  cases b
  ·exact ih
  ·refine eR.mpr ⟨fun k hk=>?_,ih⟩
   refine Bp (rowC_mem.mp hk) fun h1 h2 Z=>?_;exact .inr ⟨h1.symm,by exact lin [] [k.fst,x] (.g V1 V0) [.f K0 (.S V0 (.A V1 K1))] rfl h2⟩
theorem F4:∀{G:Gr}{y:Int},(BF y G).Pairwise lt2
 | [],_=>.nil
 | r::G,y=>by
  refine List.pairwise_append.mpr ⟨JK,F4,fun a ha b hb=>?_⟩;refine Ao (rowC_mem.mp ha) fun h1 Z=>?_;refine Ao (cellsF_mem.mp hb) fun h2 Z=>?_;exact .inl (by dsimp only at h2;exact lin [] [a.snd,y,b.snd] (.g V0 V2) [.h V0 V1,.f K0 (.S V2 (.A V1 K1))] rfl h1 h2)
theorem H8(G:Gr):(Ae G).Pairwise lt2:=F4
structure Flo(G:Gr)(w:Nat):Prop where
 g:Grid G w
 ne:∃a P',Ae G=a::P'/\Hangs (Ae G) a
 out:Hangs (AK (Ae G) w G.length) (-1,-1)
theorem Flo.some{G:Gr}{w:Nat}(f:Flo G w):(G.any fun r=>r.any id)=true:=by
 refine X2pp f.ne fun a P' e Z=>?_;have ha:a∈Ae G:=by rw [e];exact .head _
 refine Ao (cellsOf_mem.mp ha) fun Z Z0=>?_;refine X1ppp Z0 fun r h1 Z h2=>?_;rw [dO];exact ⟨r,af h1,dO.mpr ⟨true,af h2,rfl⟩⟩
inductive LP(avs:List AV)(V:LS)(K:KR):Prop
 | mk (a:_)(G:Gr)(w:_)(c0:avs=[.loc a 0])(c1:V=[.at a (.list (AC G))])(c2:Flo G w)(c3:K ⟨[],.val (Bi (.list (AC G)) (Ae G))⟩ [.at a (.list (AC G))]):LP avs V K
noncomputable def fFloor:FS:=specF fun avs V K X=>LP avs V K
noncomputable abbrev tInit:Tab:=⟨true,[28],[(36,fArows),(35,KZ)],[(13,Lf)],[]⟩
noncomputable abbrev inS(x dx o a:Addr)(G:Gr)(P:List (Af×AV)):LS:=[.at x (.inst dx),.at dx (.attrs (Ft (.list (AC G)) (.loc o 2))),.at o (.dict P),.at a (.list (AC G))]
inductive InJ(x dx o a:Addr)(G:Gr)(d r:Gr):M->LS->Prop
 | mk (hd:d++r=G)(u1 u2 u3 u4:Option AV):InJ x dx o a G d r [some (.loc x 0),some (.loc a 3),u1,u2,u3,u4,aa] (inS x dx o a G (tt (Ae d)))
inductive InI(x dx o a:Addr)(G d:Gr)(r:List Bool)(e t:List Bool):M->LS->Prop
 | mk (he:e++t=r)(u1 u2:Option AV):InI x dx o a G d r e t [some (.loc x 0),some (.loc a 3),some (.int d.length),some (.str (B5 r)),u1,u2,aa] (inS x dx o a G (tt (Ae d++Ce d.length 0 e)))
theorem CB{α:Type}{d r G:List α}{x:α}(h:d++x::r=G):d.length<G.length:=by
 rw [<- h,ao,aL];exact lin [d.length,r.length] [] (.c V0 (.A V0 (.A V1 K1))) [] rfl
theorem Kw{X:XL}{x dx o a:Addr}{G d:Gr}{w:Nat}{r e t:List Bool}{b:Bool}{m:M}{V:LS}{C:M->LS->Prop}{KK:KS}(hP:(Ae d).length<=36)(hr:r.length<=6)(j:InI x dx o a G d r e (b::t) m V)(hC:∀As Ab,InI x dx o a G d r (e++[b]) t As Ab->C As Ab) :
  wpSs tInit [.ite (.cmp .Eq (.v 5) (.str "#")) [.setitem (.attr (.v 0) 12) (.tup [(.v 4),(.v 2)]) (.bool true)] []] X (FA (FA m 4 (.int e.length)) 5 (.str ⟨#[sgn b]⟩)) V (Ex aa V C KK):=by
 cases j with
 | mk he u1 u2 =>
  have U:=CB he;have go:∀q,q=tt (Ae d++Ce d.length 0 (e++[b]))->C [some (.loc x 0),some (.loc a 3),some (.int d.length),some (.str (B5 r)),some (.int e.length),some (.str ⟨#[sgn b]⟩),aa] (inS x dx o a G q):=fun q hq=>by
   subst hq;exact hC _ _ (.mk (by rw [aI];exact he) _ _)
  rw [FC] at go;refine ⟨b,KD b,?_⟩
  cases b
  ·rw [show Ce (d.length:Int) (0+e.length) [false]=[] from rfl,aM] at go
   exact go _ rfl
  ·refine ⟨⟨rfl,rfl,rfl,rfl⟩,rfl,rfl,Ar ?_,go _ ?_⟩
   ·rw [BO,ao]
    have h1:=EY (y:=d.length) (r:=e) (x:=0);clear go he;exact lin [(Ae d).length,r.length,e.length,(Ce (↑(bR d)) 0 e).length] [] (.b (.A V0 V3) AE) [.b V0 K36,.b V1 K6,.c V2 V1,.b V3 V2] rfl hP hr U h1
   ·rw [show Ce (d.length:Int) (0+e.length) [true]=[(0+(e.length:Int),(d.length:Int))] from rfl,cZ,<- aI]
    exact G0 IZ
theorem init_end{K:KR}{X:XL}{x dx o a:Addr}{G:Gr}{w:Nat}{u1 u2 u3 u4:Option AV}(f:Flo G w)(hK:K ⟨[],.val (Bi (.list (AC G)) (Ae G))⟩ [.at a (.list (AC G))]) :
  wpSs tInit (c_Finit.body.drop 4) X [some (.loc x 0),some (.loc a 3),u1,u2,u3,u4,aa] (inS x dx o a G (tt (Ae G))) (fun fl Z τ=>flV fl=.none/\madeW 1 x dx τ K):=by
 refine X2pp f.ne fun a0 P' eP hh=>?_;have g:=f.g;have hP:(Ae G).length<=1000:=aB g.cells (by decide)
 have hF:(AK (Ae G) w G.length).length<=1000:=aB (Jd g) (by decide)
 have h0:((tt (Ae G)).map fun p=>sp p.1)[0]?=some (sp a0):=by rw [EV,eP];rfl
 have tl:∀{P:List Af},P.length<=1000->(tt P).length<=big:=fun h=>Ar (by rw [BO];exact h)
 refine ⟨⟨rfl,rfl,rfl,rfl⟩,rfl,rfl,tl hP,sp a0,h0,⟨rfl,rfl,rfl,rfl⟩,rfl,a0,Ae G,hP,.inr ⟨o,rfl,rfl,fun fs hc=>?_⟩⟩;have e1:=hh.len (by rw [eP];exact .head _) (Cu (H8 G)) hc
 refine ⟨tl (e1▸hP),⟨rfl,rfl,rfl,rfl⟩,rfl,rfl,tl hP,ifF (by rw [BO,BO,e1,beq_self_eq_true];rfl) ?_⟩
 refine ⟨⟨rfl,rfl,rfl,rfl⟩,⟨rfl,rfl,rfl,rfl⟩,x,dx,o,G,w,Ae G,_,rfl,rfl,g,?_⟩;refine ⟨(-1,-1),AK (Ae G) w G.length,hF,.inl ⟨rfl,rfl,fun B u=>?_⟩⟩;have m1:((-1,-1):Af)∈AK (Ae G) w G.length:=around_mem.mpr ⟨⟨⟨by decide,dh (by decide) (dT _)⟩,by decide,dh (by decide) (dT _)⟩,fun q=>by have:=(g.in q).1;exact absurd this (by decide)⟩
 have e2:=f.out.len m1 DO u;refine ⟨tl (e2▸hF),tl hF,ifF (by rw [BO,BO,e2,beq_self_eq_true];rfl) ?_⟩
 exact ⟨rfl,⟨rfl,rfl,rfl,rfl,rfl,rfl⟩,hK⟩
noncomputable def locHd?(l:List AV):Option Addr:=match l with
 | []=>aa
 | x::_=>(match x with
  | .loc a _=>some a
  | _=>aa)
theorem JO{u:List AV}{a:Addr}(h:Bs u 0=[.loc a 0]):Bs u 3=[.loc a 3]:=by
 cases u with
 | nil=>exact (Ak rfl (congrArg locHd? h)).elim
 | cons v r =>
  cases v with
  | loc b i =>
   obtain rfl:b=a:=ar (congrArg locHd? h)
   cases r with
   | nil=>rfl
   | cons v r =>
    have e2:=(eJ h).2
    cases v<;>exact (List.cons_ne_nil _ _ e2).elim
  | _=>exact (Ak rfl (congrArg locHd? h)).elim
theorem I9{G d r:Gr}{w:Nat}(g:Grid G w)(hd:d++r=G):(Ae d).length<=36:=by
 have h2:=B8 (w:=w) (G:=d) (y:=0) fun q hq=>g.len q (by rw [<- hd];exact aX _ hq)
 have h3:d.length * w<=6 * 6:=dQ (aB (by rw [<- hd,ao];exact dr _ _) g.h6) g.w6
 exact aB h2 h3
theorem init_ok(u:List AV)(V:LS)(K:KR)(X:XL)(h:fFloor.spec (Bs u 0) V K X):makeW tInit c_Finit 5 0 (Bs u 3) V K X:=by
 obtain ⟨a,G,w,ha,rfl,f,hK⟩:=h;have g:=f.g;rw [JO ha];refine ⟨rfl,fun x dx=>⟨a,G,w,rfl,rfl,g,f.some,?_⟩⟩;refine ⟨rfl,Ar (CH g),⟨rfl,rfl⟩,cq rfl,fun o=>⟨⟨rfl,rfl⟩,cq rfl,rfl,?_⟩⟩;rw [GW];refine Fa (r:=G) (g:=fun r=>.str (B5 r)) (InJ x dx o a G) ?_ ?_ (d:=[]) ?_
 ·intro d m V j
  cases j with
  | mk hd u1 u2 u3 u4 =>
   rw [aM] at hd;clear g;subst hd;exact init_end f hK
 ·intro d r s m V j C hC
  cases j with
  | mk hd u1 u2 u3 u4 =>
   have hr:r.length<=6:=by rw [g.len r (by rw [<- hd];exact aT _ (.head _))];exact g.w6
   refine ⟨Eo r,?_⟩;rw [GW,DA];refine Fa (r:=r) (g:=fun b=>.str ⟨#[sgn b]⟩) (InI x dx o a G d r) ?_ ?_ (d:=[]) ?_
   ·intro e m V j
    cases j with
    | mk he u1 u2 =>
     rw [aM] at he;clear hr;subst he
     have:=InJ.mk (x:=x) (dx:=dx) (o:=o) (a:=a) (G:=G) (d:=d++[e]) (r:=s) (by rw [aI];exact hd) (some (.int d.length)) (some (.str (B5 e))) u1 u2
     unfold Ae at this;rw [Cr,cZ] at this;exact ⟨rfl,hC _ _ this⟩
   ·intro e b t m V j C hC
    exact Kw (w:=w) (I9 g hd) hr j hC
   ·have:=InI.mk (x:=x) (dx:=dx) (o:=o) (a:=a) (G:=G) (d:=d) (r:=r) (e:=[]) (t:=r) rfl u3 u4
    rw [show Ce (d.length:Int) 0 []=[] from rfl,aM] at this
    exact this
 ·have:=InJ.mk (x:=x) (dx:=dx) (o:=o) (a:=a) (G:=G) (d:=[]) (r:=G) rfl aa aa aa aa
  have e:=fset_fl (.list (AC G)) (.loc o 2);rw [inS,<- e] at this;exact this
end
section
theorem ivs_at:∀{d:List Int}{x a:Int}{r:List Int}{n:Nat},d++x::r=ivs a n->x=a+d.length/\d.length<n
 | [],x,a,r,0,h=>by cases h
 | [],x,a,r,n+1,h=>by
  refine X0lp x (eJ h) fun Z=>?_;exact ⟨(bB _).symm,gj _⟩
 | z::d,x,a,r,0,h=>by cases h
 | z::d,x,a,r,n+1,h=>by
  refine Ao (eJ h) fun Z0 h=>?_;subst Z0;refine Ao (ivs_at h) fun h1 h2=>?_;rw [aL];exact ⟨by exact ah (lin [d.length] [x,z] (.f V0 (.A V1 (.c (.A V0 K1)))) [.h V0 (.A (.A V1 K1) (.c V0))] rfl h1) (lin [d.length] [x,z] (.f (.A V1 (.c (.A V0 K1))) V0) [.H (-1) V0 (.A (.A V1 K1) (.c V0))] rfl h1),by exact lin [d.length,n] [] (.c (.A V0 K1) (.A V1 K1)) [.c V0 V1] rfl h2⟩
theorem Cn{y:Int}:∀{r:List Bool}{x:Int},Ce y x r=((ivs x r.length).filter fun z=>r.getD (z - x).toNat false).map fun z=>(z,y)
 | [],_=>rfl
 | b::r,x=>by
  have ih:=Cn (y:=y) (r:=r) (x:=x+1);have e:((ivs (x+1) r.length).filter fun z=>(b::r).getD (z - x).toNat false)=(ivs (x+1) r.length).filter fun z=>r.getD (z - (x+1)).toNat false:=by
   apply List.filter_congr;intro z hz;rw [ivs_mem] at hz;rw [show (z - x).toNat=(z - (x+1)).toNat+1 by exact aw (lin [(z - (x+1)).toNat,(z - x).toNat] [z,x] (.b V1 (.A V0 K1)) [.f (.S V0 (.A V1 K1)) (.c V0),.h (.c V1) (.S V0 V1)] rfl (aK (z - (x+1))) (au (lin [] [x,z] (.f K0 (.S V1 V0)) [.f (.A V0 K1) V1] rfl hz.1))) (lin [(z - x).toNat,(z - (x+1)).toNat] [z,x] (.b (.A V1 K1) V0) [.f (.S V0 V1) (.c V0),.h (.c V1) (.S V0 (.A V1 K1))] rfl (aK (z - x)) (au (lin [] [x,z] (.f K0 (.S V1 (.A V0 K1))) [.f (.A V0 K1) V1] rfl hz.1)))]
   rfl
  rw [aL,ivs,List.filter_cons];have e0:(b::r).getD (x - x).toNat false=b:=by rw [Int.sub_self];rfl
  rw [e0,e]
  cases b
  ·rw [if_neg (by decide),<- ih];rfl
  ·rw [if_pos rfl,bm,<- ih];rfl
theorem row_at{r:List Bool}{n:Nat}(h:n<r.length):(B5 r).cps[n]?=some (sgn (r.getD n false)):=by
 show ((r.map sgn).toArray)[n]?=_;rw [List.getElem?_toArray,aW,aE h,az,aE h];rfl
theorem KL{G:Gr}{n:Nat}{r:List Bool}(h:G[n]?=some r):(AC G)[n]?=some (.str (B5 r)):=by
 unfold AC;rw [aW,h];rfl
theorem CG(G:Gr):(AC G).length=G.length:=by unfold AC;rw [aj]
theorem Dz{n:Nat}(h:n<=6):cg 0 n 1=true:=Cx (by decide) (by decide) (by exact lin [n] [] (.f Bk (.c V0)) [] rfl) (by exact lin [n] [] (.f (.c V0) Az) [.b V0 K6] rfl h)
theorem rng_grid(G:Gr):AU 0 1 (A9 0 (AC G).length 1)=(ivs 0 G.length).map .int:=by rw [CG,JL]
theorem EZ(r:List Bool):AU 0 1 (A9 0 (B5 r).length 1)=(ivs 0 r.length).map .int:=by rw [AY,JL]
noncomputable def colG(G:Gr)(x:Int):List Bool:=G.map fun r=>r.getD x.toNat false
noncomputable def trG(G:Gr)(w:Nat):Gr:=(ivs 0 w).map (colG G)
theorem Jv{x y:Str}(h:x.cps.toList=y.cps.toList):x=y:=by
 obtain ⟨⟨a⟩⟩:=x;obtain ⟨⟨b⟩⟩:=y
 have:a=b:=h
 rw [this]
theorem HR{α β:Type}(f:α->β):∀l:List α,(l.map fun x=>[f x]).flatten=l.map f
 | []=>rfl
 | x::l=>by rw [bm,List.flatten_cons,HR f l];rfl
inductive Ij(avs:List AV)(V:LS)(K:KR):Prop
 | mk (G:Gr)(w:_)(c0:avs=[.list (AC G)])(c1:V=[])(c2:Grid G w)(c3:K ⟨[],.val (.list (AC (trG G w)))⟩ []):Ij avs V K
noncomputable def KY:FS:=specF fun avs V K X=>Ij avs V K
theorem Jq{ex:List Nat}:FnOk ⟨true,ex,[],[],[]⟩ Ch .val 2 0 KY:=by
 refine .specF fun u V K X h=>?_;obtain ⟨G,w,rfl,rfl,g,hK⟩:=h;have h1:=g.h1;have h6:=g.h6;have w6:=g.w6;have h0:∃r0,G[0]?=some r0/\r0.length=w:=by
  cases G with
  | nil=>exact absurd h1 (by decide)
  | cons r0 G=>exact ⟨r0,rfl,g.len r0 (.head _)⟩
 obtain ⟨r0,e0,l0⟩:=h0;refine ⟨rfl,_,KL e0,Ar (by rw [AY];exact lin [w,r0.length] [] (.b V1 AE) [.b V0 K6,.d V1 V0] rfl w6 l0),Dz (by rw [AY];exact aB (ew l0) w6),?_⟩
 refine ⟨Ar (by rw [EZ,aj,AA,l0];exact aB w6 (by decide)),?_⟩
 refine BZ (g:=.int) (f:=fun x=>.str (B5 (colG G x))) ((EZ r0).trans (by rw [l0])) (fun x hx C h=>?_) ?_
 ·rw [ivs_mem] at hx
  refine ⟨Ar (by rw [CG];exact lin [bR G] [] (.b V0 AE) [.b V0 K6] rfl h6),?_⟩
  refine BZ (r:=G) (g:=fun r=>.str (B5 r)) (f:=fun r=>.str ⟨#[sgn (r.getD x.toNat false)]⟩) rfl (fun r hr C2 h2=>?_) ?_
  ·have lr:=g.len r hr
   exact ⟨⟨by exact lin [] [x] (.f K0 V0) [.f K0 V0] rfl hx.1,by exact lin [w] [x] (.g V0 Az) [.b V0 K6,.g V0 (.A K0 (.c V0))] rfl w6 hx.2⟩,_,row_at (by exact lin [w,r.length,x.toNat] [x] (.c V2 V1) [.g V0 (.A K0 (.c V0)),.D (-1) V1 V0,.h (.c V2) V0] rfl hx.2 lr (au (lin [] [x] (.f K0 V0) [.f K0 V0] rfl hx.1))),h2⟩
  ·refine ⟨G.map fun r=>⟨#[sgn (r.getD x.toNat false)]⟩,by rw [bc];rfl,?_,?_⟩
   ·rw [bc,aj]
    have e1:(G.map ((fun x:Str=>x.length) ∘ fun r=>(⟨#[sgn (r.getD x.toNat false)]⟩:Str))).sum=G.length:=by
     rw [show ((fun x:Str=>x.length) ∘ fun r:List Bool=>(⟨#[sgn (r.getD x.toNat false)]⟩:Str))=fun Z=>1 from rfl,List.map_const',List.sum_replicate_nat];exact aw (lin [bR G] [] (.b (.U V0 1) V0) [] rfl) (lin [bR G] [] (.b V0 (.U V0 1)) [] rfl)
    rw [e1,show ("":Str).length=0 from rfl];exact lin [bR G] [] (.b (.A V0 (.U V0 0)) Az) [.b V0 K6] rfl h6
   ·have e2:Txt.join "" (G.map fun r=>(⟨#[sgn (r.getD x.toNat false)]⟩:Str))=B5 (colG G x):=by
     apply Jv;rw [FP,bc];show (G.map fun r=>[sgn (r.getD x.toNat false)]).flatten=(colG G x).map sgn;unfold colG;rw [bc,HR]
     rfl
    rw [e2];exact h
 ·have e3:(ivs 0 w).map (fun x=>AV.str (B5 (colG G x)))=AC (trG G w):=by unfold AC trG;rw [bc];rfl
  rw [e3];exact hK
end
section
noncomputable def AD(w:Nat)(p:Nat×Nat):List Bool:=be p.1 false++(be p.2 true++be (w - p.1 - p.2) false)
structure Strips(ev:Bool)(w:Nat)(L:List (Nat×Nat)):Prop where
 ok:∀p∈L,1<=p.2/\p.1+p.2<=w/\(ev=true->p.2 % 2=0)
 ch:∀(i:Nat)(p q:Nat×Nat),L[i]?=some p->L[i+1]?=some q->p.1<q.1+q.2/\q.1<p.1+p.2
theorem Strips.nil{ev:Bool}{w:Nat}:Strips ev w []:=⟨fun Z h=>(by cases h),fun Z Z Z h=>(by cases h)⟩
theorem Strips.snoc{ev:Bool}{w:Nat}{L:List (Nat×Nat)}{q:Nat×Nat}(h:Strips ev w L)(hq:1<=q.2/\q.1+q.2<=w/\(ev=true->q.2 % 2=0))(hl:∀p,L.getLast?=some p->p.1<q.1+q.2/\q.1<p.1+p.2):Strips ev w (L++[q]):=by
 refine ⟨fun p hp=>?_,fun i p r hp hr=>?_⟩
 ·rcases aN.mp hp with z | z
  ·exact h.ok p z
  ·rw [aJ.mp z];exact hq
 ·rcases Nat.lt_trichotomy (i+1) L.length with z | z | z
  ·rw [b8 (by omega)] at hp hr
   exact h.ch i p r hp hr
  ·rw [b8 (by exact lin [i,L.length] [] (.c V0 V1) [.d (.A V0 K1) V1] rfl z)] at hp
   rw [bf (by exact lin [i,L.length] [] (.b V1 (.A V0 K1)) [.D (-1) (.A V0 K1) V1] rfl z),show i+1 - L.length=0 by exact aw (lin [i,L.length,i+1 - L.length] [] (.b V2 K0) [.d (.A V0 K1) V1,.d (.A V2 V1) (.A V0 K1)] rfl z (an (lin [i,L.length] [] (.b V1 (.A V0 K1)) [.D (-1) (.A V0 K1) V1] rfl z))) (lin [i+1 - L.length] [] (.b K0 V0) [] rfl)] at hr
   cases hr
   refine hl p ?_;rw [List.getLast?_eq_getElem?,show L.length - 1=i by exact aw (lin [i,L.length,L.length - 1] [] (.b V2 V0) [.D (-1) (.A V0 K1) V1,.d (.A V2 K1) V1] rfl z (an (lin [i,L.length] [] (.b K1 V1) [.d (.A V0 K1) V1] rfl z))) (lin [i,L.length,L.length - 1] [] (.b V0 V2) [.d (.A V0 K1) V1,.b V1 (.A K1 V2)] rfl z (aq.mp (ay ((L.length) - (1)))))];exact hp
  ·rw [bf (by exact lin [L.length,i] [] (.b V0 (.A V1 K1)) [.c V0 (.A V1 K1)] rfl z),show i+1 - L.length=(i - L.length)+1 by exact aw (lin [i,L.length,i - L.length,i+1 - L.length] [] (.b V3 (.A V2 K1)) [.b V0 (.A V1 V2),.d (.A V3 V1) (.A V0 K1)] rfl (aq.mp (ay ((i) - (L.length)))) (an (lin [L.length,i] [] (.b V0 (.A V1 K1)) [.c V0 (.A V1 K1)] rfl z))) (lin [i,L.length,i+1 - L.length,i - L.length] [] (.b (.A V3 K1) V2) [.b (.A V0 K1) (.A V1 V2),.d (.A V3 V1) V0] rfl (aq.mp (ay ((i+1) - (L.length)))) (an (lin [L.length,i] [] (.b V0 V1) [.c V0 (.A V1 K1)] rfl z)))] at hr
   cases hr
theorem Be{a b:Int}(hb:0<b):0<=a.fmod b/\a.fmod b<b:=⟨Int.fmod_nonneg_of_pos _ hb,Int.fmod_lt_of_pos _ hb⟩
theorem s_hash:("#":Str)=⟨#[35]⟩:=by decide +kernel
theorem s_dot:(".":Str)=⟨#[46]⟩:=by decide +kernel
theorem Kb(c:Nat)(n:Int):(dW ⟨#[c]⟩ n).length=n.toNat:=by
 have:(dW ⟨#[c]⟩ n).cps.toList.length=(dW ⟨#[c]⟩ n).length:=ge
 rw [<- this,E6,bM]
theorem Iz(w b s:Nat)(h:b+s<=w):dW "." b++dW "#" s++dW "." ((w:Int) - b - s)=B5 (AD w (b,s)):=by
 apply Jv;rw [s_hash,s_dot,EP,EP,E6,E6,E6];show _=(AD w (b,s)).map sgn;unfold AD;rw [aP,aP,gF,gF,gF,bZ,bZ,show ((w:Int) - b - s).toNat=w - b - s by omega,aI]
 rfl
theorem Ih{li:Bool}{mu:Option Nat}{x y z:Int}{V:LS}{K:KV}(e:x+y=z)(h:K (.int z) V):binW li mu .Add (.int x) (.int y) V K:=by subst e;exact h
theorem pick_lo{w sz lo hi m f:Int}(h1:1<=sz)(h2:sz<=w)(h4:lo<=hi)(h5:hi<=w - 1)(hm:m=max 0 (lo - sz+1))(h0:0<=hi):0<=m/\lo<=m+sz - 1/\m<=w - sz/\m<=hi:=by exact ⟨lin [] [m,max 0 (lo - sz+1)] (.f K0 V0) [.H (-1) V0 V1,.f K0 V1] rfl hm (Int.le_max_left (0) (lo - sz+1)),⟨lin [] [m,max 0 (lo - sz+1),lo,sz] (.f V2 (.S (.A V0 V3) K1)) [.H (-1) V0 V1,.f (.A (.S V2 V3) K1) V1] rfl hm (du (0) (lo - sz+1)),⟨(Co (0) (lo - sz+1)).elim (fun z0=>lin [] [sz,w,m,max 0 (lo - sz+1)] (.f V2 (.S V1 V0)) [.f V0 V1,.h V2 V3,.h V3 K0] rfl h2 hm z0) (fun z0=>lin [] [lo,hi,w,m,max 0 (lo - sz+1),sz] (.f V3 (.S V2 V5)) [.f V0 V1,.f V1 (.S V2 K1),.h V3 V4,.h V4 (.A (.S V0 V5) K1)] rfl h4 h5 hm z0),(Co (0) (lo - sz+1)).elim (fun z0=>lin [] [m,max 0 (lo - sz+1),hi] (.f V0 V2) [.h V0 V1,.f K0 V2,.h V1 K0] rfl hm h0 z0) (fun z0=>lin [] [sz,lo,hi,m,max 0 (lo - sz+1)] (.f V3 V2) [.f K1 V0,.f V1 V2,.h V3 V4,.h V4 (.A (.S V1 V0) K1)] rfl h1 h4 hm z0)⟩⟩⟩
theorem IB{w sz:Nat}{lo hi N:Int}(s1:1<=sz)(s2:sz<=w)(h1:0<=lo)(h2:lo<=hi)(h3:hi<=(w:Int) - 1) :
  ∃bg:Nat,min ((w:Int) - sz) hi - max 0 (lo - sz+1)+1≠0/\max 0 (lo - sz+1)+N.fmod (min ((w:Int) - sz) hi - max 0 (lo - sz+1)+1)=bg/\bg+sz<=w/\(bg:Int)<=hi/\lo<bg+sz:=by
 refine B0 (pick_lo (f:=0) (dU.mpr s1) (dU.mpr s2) h2 h3 rfl (dh h1 h2)) fun q1 q2 q3 q4=>?_;have q5:max 0 (lo - sz+1)<=min ((w:Int) - sz) hi:=Int.le_min.mpr ⟨q3,q4⟩;have q6:min ((w:Int) - sz) hi<=(w:Int) - sz:=Int.min_le_left _ _;have q7:min ((w:Int) - sz) hi<=hi:=Int.min_le_right _ _;generalize max 0 (lo - sz+1)=m at *;generalize min ((w:Int) - sz) hi=u at *;clear q3 q4 h1 h2 h3 s1 s2;have hb:=Be (a:=N) (b:=u - m+1) (by clear q1 q2 q6 q7;exact lin [] [m,u] (.g K0 (.A (.S V1 V0) K1)) [.f V0 V1] rfl q5)
 generalize N.fmod (u - m+1)=r at hb;refine X1p (cu (Int.add_nonneg q1 hb.1)) fun bg e=>?_;refine ⟨bg,by clear e hb q1 q2 q6 q7;exact fun z0=>lin [] [m,u] .no [.f V0 V1,.h (.A (.S V1 V0) K1) K0] rfl q5 z0,e,?_,?_,?_⟩
 ·clear q1 q2 q5 q7;exact lin [w,sz,bg] [u,r,m] (.b (.A V2 V1) V0) [.f V0 (.S (.c V0) (.c V1)),.g V1 (.A (.S V0 V2) K1),.H (-1) (.A V2 V1) (.c V2)] rfl q6 hb.2 e
 ·clear q1 q2 q5 q6;exact lin [bg] [u,hi,r,m] (.f (.c V0) V1) [.f V0 V1,.g V2 (.A (.S V0 V3) K1),.H (-1) (.A V3 V2) (.c V0)] rfl q7 hb.2 e
 ·clear q1 q5 q6 q7;exact lin [sz,bg] [lo,m,r] (.g V0 (.A (.c V1) (.c V0))) [.f V0 (.S (.A V1 (.c V0)) K1),.f K0 V2,.h (.A V1 V2) (.c V1)] rfl q2 hb.1 e
theorem IA{ev:Bool}{w:Nat}{N:Int}(w2:2<=w):∃sz:Nat,(1<=sz/\sz<=w/\(ev=true->sz % 2=0))/\((w:Int)≠0/\(w:Int).fdiv 2≠0)/\(match ev with
  | true=>2 * (1+N.fmod ((w:Int).fdiv 2))=(sz:Int)
  | false=>1+N.fmod w=(sz:Int)):=by
 have h2:1<=(w:Int).fdiv 2/\2 * (w:Int).fdiv 2<=w:=by
  rw [Int.fdiv_eq_ediv_of_nonneg _ (by decide)];omega
 have ne:(w:Int)≠0/\(w:Int).fdiv 2≠0:=by omega
 cases ev
 ·have hs:=Be (a:=N) (b:=w) (by exact lin [w] [] (.g K0 (.c V0)) [.b K2 V0] rfl w2)
  obtain ⟨sz,hz⟩:=cu (show 0<=1+N.fmod w by clear h2 ne;exact lin [] [N.fmod ↑w] (.f K0 (.A K1 V0)) [.f K0 V0] rfl hs.1)
  refine ⟨sz,⟨?_,?_,fun h=>(by cases h)⟩,ne,hz⟩<;>(clear h2 ne;omega)
 ·have hs:=Be (a:=N) (b:=(w:Int).fdiv 2) (by omega)
  obtain ⟨sz,hz⟩:=cu (show 0<=1+N.fmod ((w:Int).fdiv 2) by clear h2 ne;omega)
  refine ⟨2 * sz,⟨?_,?_,fun Z=>Nat.mul_mod_right _ _⟩,ne,?_⟩
  ·clear h2 ne;omega
  ·clear ne;omega
  ·dsimp only;rw [hz];rfl
inductive Il(avs:List AV)(V:LS)(K:KR):Prop
 | mk (a:_)(b:_)(ev:_)(c0:avs=[.int a,.int b,.bool ev])(c1:V=[])(c2:∀w L,2<=w->w<=6->1<=L.length->L.length<=6->Strips ev w L->K ⟨[.list (AC (L.map (AD w)))],.new 0⟩ []):Il avs V K
noncomputable def K9:FS:=specF fun avs V K X=>Il avs V K
noncomputable abbrev rbM(a b:Int)(ev:Bool)(w:Nat)(f:Addr)(lo hi:Int)(u7 u8 u9 u10 u11:Option AV):M:=[some (.int a),some (.int b),some (.bool ev),some (.int w),some (.loc f 4),some (.int lo),some (.int hi),u7,u8,u9,u10,u11]
noncomputable abbrev rbS(w:Nat)(f:Addr)(L:List (Nat×Nat)):LS:=[.no,.no,.no,.no,.at f (.list (AC (L.map (AD w))))]
inductive RbJ(a b:Int)(ev:Bool)(w n:Nat)(f:Addr)(d r:List Int):M->LS->Prop
 | mk (hn:d.length+r.length=n)(L:List (Nat×Nat))(lo hi:Int)(u7 u8 u9 u10 u11:Option AV)(hL:L.length=d.length)(st:Strips ev w L)(h1:0<=lo)(h2:lo<=hi)(h3:hi<=(w:Int) - 1)(hl:∀p,L.getLast?=some p->lo=p.1/\hi=p.1+p.2 - 1):RbJ a b ev w n f d r (rbM a b ev w f lo hi u7 u8 u9 u10 u11) (rbS w f L)
theorem rb_last{L:List (Nat×Nat)}{bg sz:Nat}{lo hi:Int}(hl:∀p,L.getLast?=some p->lo=p.1/\hi=p.1+p.2 - 1)(h4:(bg:Int)<=hi)(h5:lo<bg+sz)(p:Nat×Nat)(hp:L.getLast?=some p):p.1<bg+sz/\bg<p.1+p.2:=by
 refine Ao (hl p hp) fun e1 e2=>?_;clear hp hl
 constructor
 ·clear e2 h4;exact lin [bg,sz,p.fst] [lo] (.c V2 (.A V0 V1)) [.g V0 (.A (.c V0) (.c V1)),.H (-1) V0 (.c V2)] rfl h5 e1
 ·clear e1 h5;exact lin [bg,p.fst,p.snd] [hi] (.c V0 (.A V1 V2)) [.f (.c V0) V0,.h V0 (.S (.A (.c V1) (.c V2)) K1)] rfl h4 e2
theorem rb_step{ex:List Nat}{X:XL}{a b:Int}{ev:Bool}{w n:Nat}{f:Addr}{lo hi y N:Int}{L:List (Nat×Nat)}{u9 u10 u11:Option AV}{sz:Nat}{KK:KS}(w6:w<=6)(hL:L.length<=6)(s1:1<=sz)(s2:sz<=w)(h1:0<=lo)(h2:lo<=hi)(h3:hi<=(w:Int) - 1)
  (h:∀bg:Nat,bg+sz<=w->(bg:Int)<=hi->lo<bg+sz->∀u10 u11,KK .next (rbM a b ev w f bg (bg+sz - 1) (some (.int y)) (some (.int N)) (some (.int sz)) u10 u11) (rbS w f (L++[(bg,sz)]))) :
  wpSs ⟨true,ex,[(73,EA)],[],[]⟩ [.assign (.v 10) (.call (.g 14) [(.int 0),(.bin .Add (.bin .Sub (.v 5) (.v 9)) (.int 1))]),.assign (.v 11) (.bin .Add (.v 10) (.bin .Mod (.bin .FloorDiv (.v 8) (.int 30)) (.bin .Add (.bin .Sub (.call (.g 13) [(.bin .Sub (.v 3) (.v 9)),(.v 6)]) (.v 10)) (.int 1)))),.expr (.meth (.v 4) 0 [(.bin .Add (.bin .Add (.bin .Mult (.str ".") (.v 11)) (.bin .Mult (.str "#") (.v 9))) (.bin .Mult (.str ".") (.bin .Sub (.bin .Sub (.v 3) (.v 11)) (.v 9))))]),.assign (.tup [(.v 5),(.v 6)]) (.tup [(.v 11),(.bin .Sub (.bin .Add (.v 11) (.v 9)) (.int 1))])] X
   (rbM a b ev w f lo hi (some (.int y)) (some (.int N)) (some (.int sz)) u10 u11) (rbS w f L) KK:=by
 refine X1ppppp (IB (N:=N.fdiv 30) s1 s2 h1 h2 h3) fun bg ne e b1 b2 b3=>?_;refine ⟨ne,Ih e ?_⟩;have bw:bg<=6:=aB (aB (dr _ _) b1) w6;have sw:sz<=6:=aB s2 w6;have m0:∀n:Int,-100<=n->n<=100->MulOk "." n:=fun n h1 h2=>mul_ok (by decide) h2 h1
 have l0:∀n:Int,(dW "." n).length=n.toNat:=fun n=>by rw [s_dot];exact Kb _ _
 have l1:(dW "#" sz).length=sz:=by rw [s_hash,Kb,bZ]
 clear ne e h1 h2 h3;have z1:-100<=(w:Int) - bg - sz/\(w:Int) - bg - sz<=100:=by clear b2 b3 s1 s2 hL;exact ⟨lin [bg,sz,w] [] (.f Km100 (.S (.S (.c V2) (.c V0)) (.c V1))) [.b (.A V0 V1) V2] rfl b1,lin [w,bg,sz] [] (.f (.S (.S (.c V0) (.c V1)) (.c V2)) Eb) [.b V0 K6] rfl w6⟩
 refine ⟨rfl,m0 _ (by clear z1 b1 b2 b3 s1 s2 hL;exact lin [bg] [] (.f Km100 (.c V0)) [] rfl) (by clear z1 b1 b2 b3 s1 s2 hL;exact lin [bg] [] (.f (.c V0) Eb) [.b V0 K6] rfl bw),mul_ok (by decide) (by clear z1 b1 b2 b3 s1 s2 hL;exact lin [sz] [] (.f (.c V0) Eb) [.b V0 K6] rfl sw) (by clear z1 b1 b2 b3 s1 s2 hL;exact lin [sz] [] (.f Km100 (.c V0)) [] rfl),Ar ?_,m0 _ z1.1 z1.2,Ar ?_,rfl,Ar ?_,?_⟩
 ·rw [l0,l1,bZ];exact aB (Nat.add_le_add bw sw) (by decide)
 ·rw [app_len,l0,l1,l0,bZ];clear b2 b3 s1 s2 hL;omega
 ·rw [CG,aj];exact aB hL (by decide)
 ·have:=h bg b1 b2 b3 (some (.int (max 0 (lo - sz+1)))) (some (.int bg))
  have e:rbS w f (L++[(bg,sz)])=[.no,.no,.no,.no,.at f (.list (AC (L.map (AD w))++[.str (dW "." bg++dW "#" sz++dW "." ((w:Int) - bg - sz))]))]:=by
   rw [Iz w bg sz b1];show ([.no,.no,.no,.no,.at f (.list (AC ((L++[(bg,sz)]).map (AD w))))]:LS)=_;rw [aP];unfold AC;rw [aP]
   rfl
  rw [e] at this;exact this
theorem rb_count{a:Int}:∃n:Nat,1+(a.fdiv 5).fmod 6=(n:Int)/\1<=n/\n<=6:=by
 have:=Be (a:=a.fdiv 5) (b:=6) (by decide)
 obtain ⟨n,hn⟩:=cu (show 0<=1+(a.fdiv 5).fmod 6 by exact lin [] [(a.fdiv 5).fmod 6] (.f K0 (.A K1 V0)) [.f K0 V0] rfl this.1)
 exact ⟨n,hn,by exact lin [n] [(a.fdiv 5).fmod 6] (.b K1 V0) [.f K0 V0,.h (.A K1 V0) (.c V0)] rfl this.1 hn,by exact lin [n] [(a.fdiv 5).fmod 6] (.b V0 K6) [.g V0 K6,.H (-1) (.A K1 V0) (.c V0)] rfl this.2 hn⟩
theorem rb_width{a:Int}:∃n:Nat,2+a.fmod 5=(n:Int)/\2<=n/\n<=6:=by
 have:=Be (a:=a) (b:=5) (by decide)
 obtain ⟨n,hn⟩:=cu (show 0<=2+a.fmod 5 by exact lin [] [a.fmod 5] (.f K0 (.A K2 V0)) [.f K0 V0] rfl this.1)
 exact ⟨n,hn,by exact lin [n] [a.fmod 5] (.b K2 V0) [.f K0 V0,.h (.A K2 V0) (.c V0)] rfl this.1 hn,by exact lin [n] [a.fmod 5] (.b V0 K6) [.g V0 K5,.H (-1) (.A K2 V0) (.c V0)] rfl this.2 hn⟩
theorem small_to{n:Nat}(h:n<=1000):cg 0 n 1=true:=Cx (by decide) (by decide) (by exact lin [n] [] (.f Bk (.c V0)) [] rfl) (by exact lin [n] [] (.f (.c V0) Az) [.b V0 AE] rfl h)
theorem JI{ex:List Nat}:FnOk ⟨true,ex,[(73,EA)],[],[]⟩ EI .new 9 5 K9:=by
 refine .specF fun u V K X h=>?_;obtain ⟨a,b,ev,rfl,rfl,hK⟩:=h;refine X1ppp (rb_width (a:=a)) fun w hw w2 w6=>?_;refine X1ppp (rb_count (a:=a)) fun n hn n1 n6=>?_;refine ⟨rfl,fun f=>⟨by rw [hn];exact small_to (aB n6 (by decide)),?_⟩⟩
 rw [hn,hw];refine AQ (g:=.int) (JL n) (RbJ a b ev w n f) ?_ ?_ (d:=[]) (.mk (by rw [AA];exact gl _) [] 0 ((w:Int) - 1) _ _ _ _ _ rfl Strips.nil (by decide) (by clear hw hn;exact lin [w] [] (.f K0 (.S (.c V0) K1)) [.b K2 V0] rfl w2) (eT _) fun Z h=>(by cases h))
 ·intro d m V j
  cases j with
  | mk hd L lo hi u7 u8 u9 u10 u11 hL st _ _ _ _ =>
   rw [de,Nat.add_zero,<- hL] at hd;clear hn;subst hd;exact ⟨rfl,hK w L w2 w6 n1 n6 st⟩
 ·intro d y r m V j C hC
  cases j with
  | mk hd L lo hi u7 u8 u9 u10 u11 hL st h1 h2 h3 hl =>
   obtain ⟨sz,⟨s1,s2,s3⟩,⟨O,B⟩,hs⟩:=IA (ev:=ev) (N:=(b * 48271+7919 * y+11).fmod 2147483647) w2;have go:=rb_step (ex:=ex) (X:=fun e τ=>X e (io ([]:LS).length τ)) (a:=a) (b:=b) (ev:=ev) (n:=n) (f:=f) (y:=y) (N:=(b * 48271+7919 * y+11).fmod 2147483647) (u9:=u9) (u10:=u10) (u11:=u11) (KK:=Ex aa (rbS w f L) C (kSeq (wpSs ⟨true,ex,[(73,EA)],[],[]⟩ [.ret (.v 4)] fun e τ=>X e (io ([]:LS).length τ)) fun fl Z τ=>retW .new ([]:LS).length (flV fl) τ K)) w6 (by rw [hL];clear hn hw;exact lin [n,d.length,(y::r).length] [] (.b V1 K6) [.b V0 K6,.d (.A V1 V2) V0] rfl n6 hd) s1 s2 h1 h2 h3 fun bg b1 b2 b3 Y z=>hC _ _ (.mk (by rw [ao];clear hn hw;exact (Nat.add_assoc _ _ _).trans ((congrArg _ (iA _ _)).trans hd)) (L++[(bg,sz)]) bg (bg+sz - 1) _ _ _ _ _ (by rw [ao,ao,hL];rfl) (st.snoc ⟨s1,b1,s3⟩ (rb_last hl b2 b3)) (by exact lin [bg] [] (.f K0 (.c V0)) [] rfl) (by clear hn hw;exact lin [sz,bg] [] (.f (.c V1) (.S (.A (.c V1) (.c V0)) K1)) [.b K1 V0] rfl s1) (by clear hn hw;exact lin [bg,sz,w] [] (.f (.S (.A (.c V0) (.c V1)) K1) (.S (.c V2) K1)) [.b (.A V0 V1) V2] rfl b1) fun p hp=>by
     rw [List.getLast?_append,List.getLast?_singleton,Option.some_or] at hp
     cases hp
     exact ⟨rfl,rfl⟩)
   cases ev
   ·refine ⟨O,?_⟩
    refine Ih hs go
   ·refine ⟨B,?_⟩
    refine ⟨fG (by decide +kernel),?_⟩
    rw [show (2:Int) * (1+((b * 48271+7919 * y+11).fmod 2147483647).fmod ((w:Int).fdiv 2))=_ from hs]
    exact go
end
section
theorem Reach.trans{P:List Sp}{a b c:Sp}(h:Reach P a b)(g:Reach P b c):Reach P a c:=by
 induction g with
 | refl=>exact h
 | step _ n m ih=>exact .step ih n m
theorem Reach.symm{P:List Sp}{a b:Sp}(ha:a∈P)(h:Reach P a b):Reach P b a:=by
 induction h with
 | refl=>exact .refl
 | step g n m ih =>
  refine Reach.trans (.step .refl (Bu n) ?_) ih;exact g.mem.elim (fun e=>e▸ha) id
theorem Reach.into{P Q:List Sp}{a b:Sp}(f:Sp->Sp)(hf:∀c∈P,f c∈Q)(hn:∀c k,c∈A2 k->f c∈A2 (f k))(h:Reach P a b):Reach Q (f a) (f b):=by
 induction h with
 | refl=>exact .refl
 | step _ n m ih=>exact .step ih (hn _ _ n) (hf _ m)
noncomputable def sw(k:Sp):Sp:=(k.2,k.1)
theorem Gu(c k:Sp)(h:c∈A2 k):sw c∈A2 (sw k):=by
 cases E3 h with
 | u=>exact AW .l
 | l=>exact AW .u
 | r=>exact AW .d
 | d=>exact AW .r
theorem DJ{x y:Int}:(x - 1,y)∈A2 (x,y):=.tail _ (.head _)
theorem DI{x y:Int}:(x,y - 1)∈A2 (x,y):=.head _
theorem near_d{x y:Int}:(x,y+1)∈A2 (x,y):=.tail _ (.tail _ (.tail _ (.head _)))
theorem GU{P:List Sp}{y:Int}:∀{n:Nat}{x:Int},(∀i:Nat,i<=n->(x - i,y)∈P)->Reach P (x,y) (x - n,y)
 | 0,x,_=>by rw [show x - ((0:Nat):Int)=x by exact ah (lin [] [x] (.f (.S V0 (.c K0)) V0) [] rfl) (lin [] [x] (.f V0 (.S V0 (.c K0))) [] rfl)];exact .refl
 | n+1,x,h=>by
  refine .step (GU (n:=n) fun i hi=>h i (by exact lin [i,n] [] (.b V0 (.A V1 K1)) [.b V0 V1] rfl hi)) ?_ (h (n+1) (ay _))
  rw [show x - ((n+1:Nat):Int)=x - n - 1 by exact ah (lin [n] [x] (.f (.S V0 (.c (.A V0 K1))) (.S (.S V0 (.c V0)) K1)) [] rfl) (lin [n] [x] (.f (.S (.S V0 (.c V0)) K1) (.S V0 (.c (.A V0 K1)))) [] rfl)]
  exact DJ
theorem go_up{P:List Sp}{x:Int}:∀{n:Nat}{y:Int},(∀i:Nat,i<=n->(x,y - i)∈P)->Reach P (x,y) (x,y - n)
 | 0,y,_=>by rw [show y - ((0:Nat):Int)=y by exact ah (lin [] [y] (.f (.S V0 (.c K0)) V0) [] rfl) (lin [] [y] (.f V0 (.S V0 (.c K0))) [] rfl)];exact .refl
 | n+1,y,h=>by
  refine .step (go_up (n:=n) fun i hi=>h i (by exact lin [i,n] [] (.b V0 (.A V1 K1)) [.b V0 V1] rfl hi)) ?_ (h (n+1) (ay _))
  rw [show y - ((n+1:Nat):Int)=y - n - 1 by exact ah (lin [n] [y] (.f (.S V0 (.c (.A V0 K1))) (.S (.S V0 (.c V0)) K1)) [] rfl) (lin [n] [y] (.f (.S (.S V0 (.c V0)) K1) (.S V0 (.c (.A V0 K1)))) [] rfl)]
  exact DI
theorem FN{P:List Sp}{x z y:Int}(h:∀u,(z<=u/\u<=x)\/(x<=u/\u<=z)->(u,y)∈P):Reach P (x,y) (z,y):=by
 by_cases q:z<=x
 ·have:=GU (P:=P) (y:=y) (n:=(x - z).toNat) (x:=x) fun i hi=>h _ (by exact .inl (⟨lin [i,(x - z).toNat] [x,z] (.f V1 (.S V0 (.c V0))) [.b V0 V1,.h (.c V1) (.S V0 V1)] rfl hi (au (lin [] [z,x] (.f K0 (.S V1 V0)) [.f V0 V1] rfl q)),lin [i] [x] (.f (.S V0 (.c V0)) V0) [] rfl⟩))
  rw [show x - ((x - z).toNat:Int)=z by exact ah (lin [(x - z).toNat] [x,z] (.f (.S V0 (.c V0)) V1) [.f (.S V0 V1) (.c V0)] rfl (aK (x - z))) (lin [(x - z).toNat] [x,z] (.f V1 (.S V0 (.c V0))) [.h (.c V0) (.S V0 V1)] rfl (au (lin [] [z,x] (.f K0 (.S V1 V0)) [.f V0 V1] rfl q)))] at this;exact this
 ·have:=GU (P:=P) (y:=y) (n:=(z - x).toNat) (x:=z) fun i hi=>h _ (by exact .inr (⟨lin [i,(z - x).toNat] [z,x] (.f V1 (.S V0 (.c V0))) [.b V0 V1,.h (.c V1) (.S V0 V1)] rfl hi (au (lin [] [z,x] (.f K0 (.S V0 V1)) [.k V0 V1] rfl q)),lin [i] [z] (.f (.S V0 (.c V0)) V0) [] rfl⟩))
  rw [show z - ((z - x).toNat:Int)=x by exact ah (lin [(z - x).toNat] [z,x] (.f (.S V0 (.c V0)) V1) [.f (.S V0 V1) (.c V0)] rfl (aK (z - x))) (lin [(z - x).toNat] [z,x] (.f V1 (.S V0 (.c V0))) [.h (.c V0) (.S V0 V1)] rfl (au (lin [] [z,x] (.f K0 (.S V0 V1)) [.k V0 V1] rfl q)))] at this
  exact this.symm (h z (by exact .inr (⟨lin [] [z,x] (.f V1 V0) [.k V0 V1] rfl q,lin [] [z] (.f V0 V0) [] rfl⟩)))
theorem go_col{P:List Sp}{x y z:Int}(hz:z<=y)(h:∀u,z<=u/\u<=y->(x,u)∈P):Reach P (x,y) (x,z):=by
 have:=go_up (P:=P) (x:=x) (n:=(y - z).toNat) (y:=y) fun i hi=>h _ (by exact ⟨lin [i,(y - z).toNat] [y,z] (.f V1 (.S V0 (.c V0))) [.b V0 V1,.h (.c V1) (.S V0 V1)] rfl hi (au (lin [] [z,y] (.f K0 (.S V1 V0)) [.f V0 V1] rfl hz)),lin [i] [y] (.f (.S V0 (.c V0)) V0) [] rfl⟩)
 rw [show y - ((y - z).toNat:Int)=z by exact ah (lin [(y - z).toNat] [y,z] (.f (.S V0 (.c V0)) V1) [.f (.S V0 V1) (.c V0)] rfl (aK (y - z))) (lin [(y - z).toNat] [y,z] (.f V1 (.S V0 (.c V0))) [.h (.c V0) (.S V0 V1)] rfl (au (lin [] [z,y] (.f K0 (.S V1 V0)) [.f V0 V1] rfl hz)))] at this;exact this
theorem D6{w:Nat}{p:Nat×Nat}(h:p.1+p.2<=w){x:Int}:bit (AD w p) x↔(p.1:Int)<=x/\x<p.1+p.2:=by
 unfold bit AD;have key:∀n:Nat,(be p.1 false++(be p.2 true++be (w - p.1 - p.2) false))[n]?=some true↔p.1<=n/\n<p.1+p.2:=fun n=>by
  rcases bJ n p.1 with z | z
  ·rw [b8 (by rw [bM];exact z),dP,if_pos z]
   exact ⟨fun h=>(by cases h),fun h=>(Nat.not_le_of_lt z h.1).elim⟩
  ·rw [bf (by rw [bM];exact z),bM]
   rcases bJ (n - p.1) p.2 with z2 | z2
   ·rw [b8 (by rw [bM];exact z2),dP,if_pos z2]
    exact ⟨fun Z=>⟨z,by exact lin [n - p.fst,p.snd,n,p.fst] [] (.c V2 (.A V3 V1)) [.c V0 V1,.b V2 (.A V3 V0)] rfl z2 (aq.mp (ay ((n) - (p.fst))))⟩,fun Z=>rfl⟩
   ·rw [bf (by rw [bM];exact z2),bM,dP]
    refine ⟨fun y=>?_,fun y=>(cO.mpr z2 (by exact lin [n,p.fst,p.snd,n - p.fst] [] (.c V3 V2) [.c V0 (.A V1 V2),.d (.A V3 V1) V0] rfl y.2 (an (lin [p.fst,n] [] (.b V0 V1) [.b V0 V1] rfl z)))).elim⟩
    by_cases q:n - p.1 - p.2<w - p.1 - p.2
    ·rw [if_pos q] at y;cases y
    ·rw [if_neg q] at y;cases y
 rw [key];exact ⟨fun z0=>⟨lin [p.fst,x.toNat] [x] (.f (.c V0) V0) [.b V0 V1,.h (.c V1) V0] rfl z0.2.1 (au (lin [] [x] (.f K0 V0) [.f K0 V0] rfl z0.1)),lin [x.toNat,p.fst,p.snd] [x] (.g V0 (.A (.c V1) (.c V2))) [.c V0 (.A V1 V2),.f V0 (.c V0)] rfl z0.2.2 (aK x)⟩,fun z0=>⟨lin [p.fst] [x] (.f K0 V0) [.f (.c V0) V0] rfl z0.1,⟨lin [p.fst,x.toNat] [x] (.b V0 V1) [.f (.c V0) V0,.f V0 (.c V1)] rfl z0.1 (aK x),lin [p.fst,p.snd,x.toNat] [x] (.c V2 (.A V0 V1)) [.g V0 (.A (.c V0) (.c V1)),.h (.c V2) V0] rfl z0.2 (au (lin [p.fst] [x] (.f K0 V0) [.f (.c V0) V0] rfl z0.1))⟩⟩⟩
theorem Ju{w:Nat}{p:Nat×Nat}(h:p.1+p.2<=w):(AD w p).length=w:=by
 unfold AD;rw [ao,ao,bM,bM,bM];exact aw (lin [w - p.fst - p.snd,p.snd,w - p.fst,p.fst,w] [] (.b (.A V3 (.A V1 V0)) V4) [.d (.A V0 V1) V2,.d (.A V2 V3) V4] rfl (an (lin [p.fst,p.snd,w,w - p.fst] [] (.b V1 V3) [.b (.A V0 V1) V2,.b V2 (.A V0 V3)] rfl h (aq.mp (ay ((w) - (p.fst)))))) (an (lin [p.fst,p.snd,w] [] (.b V0 V2) [.b (.A V0 V1) V2] rfl h))) (lin [w - p.fst,p.snd,w - p.fst - p.snd,w,p.fst] [] (.b V3 (.A V4 (.A V1 V2))) [.b V0 (.A V1 V2),.b V3 (.A V4 V0)] rfl (aq.mp (ay ((w - p.fst) - (p.snd)))) (aq.mp (ay ((w) - (p.fst)))))
theorem AN{ev:Bool}{w:Nat}{L:List (Nat×Nat)}(st:Strips ev w L){k:Sp}:k∈Ae (L.map (AD w))↔0<=k.2/\∃p,L[k.2.toNat]?=some p/\(p.1:Int)<=k.1/\k.1<p.1+p.2:=by
 rw [cellsOf_mem];unfold has
 constructor
 ·intro u
  refine Ao u fun h Z0=>?_;refine X1pp Z0 fun r h1 h2=>?_;rw [aW] at h1
  cases hp:L[k.2.toNat]? with
  | none=>rw [hp] at h1;cases h1
  | some p =>
   rw [hp] at h1;cases h1;exact ⟨h,p,rfl,(D6 (st.ok p (af hp)).2.1).mp h2⟩
 ·intro u
  refine Ao u fun h Z1=>?_;refine X1pp Z1 fun p h1 h2=>?_;exact ⟨h,AD w p,by rw [aW,h1];rfl,(D6 (st.ok p (af h1)).2.1).mpr h2⟩
theorem Gv{ev:Bool}{w:Nat}{L:List (Nat×Nat)}(st:Strips ev w L)(h1:1<=L.length)(h6:L.length<=6)(w2:2<=w)(w6:w<=6):Grid (L.map (AD w)) w:=by
 refine ⟨by rw [aj];exact h1,by rw [aj];exact h6,by exact lin [w] [] (.b K1 V0) [.b K2 V0] rfl w2,w6,fun r hr=>?_⟩
 refine X1pr r (aZ.mp hr) fun p hp=>?_;exact Ju (st.ok p hp).2.1
noncomputable def LW(P:List Sp):Prop:=∀a∈P,∀b∈P,Reach P a b
theorem Ek{ev:Bool}{w:Nat}{L:List (Nat×Nat)}(st:Strips ev w L){a b:Sp}(ha:a∈Ae (L.map (AD w)))(hb:b∈Ae (L.map (AD w)))(e:a.2=b.2):Reach (Ae (L.map (AD w))) a b:=by
 obtain ⟨x,y⟩:=a;obtain ⟨z,v⟩:=b;dsimp only at e;subst e;refine Ao ((AN st).mp ha) fun h1 Z0=>?_;refine X1pp Z0 fun p h2 h3=>?_;refine Ao ((AN st).mp hb) fun Z Z1=>?_;refine X1pp Z1 fun q k2 k3=>?_;dsimp only at h2 k2 h3 k3;rw [h2] at k2;cases k2;refine FN fun u hu=>(AN st).mpr ⟨h1,p,h2,?_⟩;dsimp only;exact ⟨hu.elim (fun z0=>lin [p.fst] [z,u] (.f (.c V0) V1) [.f (.c V0) V0,.f V0 V1] rfl k3.1 z0.1) (fun z0=>lin [p.fst] [x,u] (.f (.c V0) V1) [.f (.c V0) V0,.f V0 V1] rfl h3.1 z0.1),hu.elim (fun z0=>lin [p.fst,p.snd] [x,u] (.g V1 (.A (.c V0) (.c V1))) [.g V0 (.A (.c V0) (.c V1)),.f V1 V0] rfl h3.2 z0.2) (fun z0=>lin [p.fst,p.snd] [z,u] (.g V1 (.A (.c V0) (.c V1))) [.g V0 (.A (.c V0) (.c V1)),.f V1 V0] rfl k3.2 z0.2)⟩
theorem Cl{ev:Bool}{w:Nat}{L:List (Nat×Nat)}(st:Strips ev w L):∀(n:Nat){a b:Sp},a∈Ae (L.map (AD w))->b∈Ae (L.map (AD w))->b.2=a.2+n->Reach (Ae (L.map (AD w))) a b
 | 0,a,b,ha,hb,e=>Ek st ha hb (by exact ah (lin [] [b.snd,a.snd] (.f V1 V0) [.H (-1) V0 (.A V1 (.c K0))] rfl e) (lin [] [b.snd,a.snd] (.f V0 V1) [.h V0 (.A V1 (.c K0))] rfl e))
 | n+1,a,b,ha,hb,e=>by
  refine Ao ((AN st).mp ha) fun h1 Z0=>?_;refine X1pp Z0 fun p h2 h3=>?_;refine Ao ((AN st).mp hb) fun k1 Z1=>?_;refine X1pp Z1 fun q k2 k3=>?_;have hl:a.2.toNat+1<L.length:=by
   rcases bJ b.2.toNat L.length with z | z
   ·exact lin [n,b.snd.toNat,L.length,a.snd.toNat] [b.snd,a.snd] (.c (.A V3 K1) V2) [.H (-1) V0 (.A V1 (.c (.A V0 K1))),.c V1 V2,.f V0 (.c V1),.h (.c V3) V1] rfl e z (aK b.snd) (au (lin [] [a.snd] (.f K0 V0) [.f K0 V0] rfl h1))
   ·rw [ba z] at k2;cases k2
  have hr:L[a.2.toNat+1]?=some L[a.2.toNat+1]:=aE hl;generalize L[a.2.toNat+1]=r at hr;have ov:=st.ch _ p r h2 hr;have O:=st.ok r (af hr);have u:=st.ok p (af h2);obtain ⟨x,hx⟩:∃x:Nat,x=max p.1 r.1:=⟨_,rfl⟩;have c1:((x:Int),a.2)∈Ae (L.map (AD w)):=(AN st).mpr ⟨h1,p,h2,by dsimp only;exact ⟨lin [x,max p.fst r.fst,p.fst] [] (.f (.c V2) (.c V0)) [.D (-1) V0 V1,.b V2 V1] rfl hx (Nat.le_max_left p.fst r.fst),(J7 p.fst r.fst).elim (fun z0=>lin [p.fst,p.snd,x,max p.fst r.fst] [a.fst] (.g (.c V2) (.A (.c V0) (.c V1))) [.f (.c V0) V0,.g V0 (.A (.c V0) (.c V1)),.d V2 V3,.d V3 V0] rfl h3.1 h3.2 hx z0) (fun z0=>lin [r.fst,p.fst,p.snd,x,max p.fst r.fst] [] (.g (.c V3) (.A (.c V1) (.c V2))) [.c V0 (.A V1 V2),.d V3 V4,.d V4 V0] rfl ov.2 hx z0)⟩⟩
  have c2:((x:Int),a.2+1)∈Ae (L.map (AD w)):=(AN st).mpr ⟨by dsimp only;exact lin [] [a.snd] (.f K0 (.A V0 K1)) [.f K0 V0] rfl h1,r,by dsimp only;rw [show (a.2+1).toNat=a.2.toNat+1 by exact aw (lin [a.snd.toNat,(a.snd+1).toNat] [a.snd] (.b V1 (.A V0 K1)) [.f V0 (.c V0),.h (.c V1) (.A V0 K1)] rfl (aK a.snd) (au (lin [] [a.snd] (.f K0 (.A V0 K1)) [.f K0 V0] rfl h1))) (lin [(a.snd+1).toNat,a.snd.toNat] [a.snd] (.b (.A V1 K1) V0) [.f (.A V0 K1) (.c V0),.h (.c V1) V0] rfl (aK (a.snd+1)) (au (lin [] [a.snd] (.f K0 V0) [.f K0 V0] rfl h1)))];exact hr,by dsimp only;exact ⟨lin [x,max p.fst r.fst,r.fst] [] (.f (.c V2) (.c V0)) [.D (-1) V0 V1,.b V2 V1] rfl hx (Nat.le_max_right p.fst r.fst),(J7 p.fst r.fst).elim (fun z0=>lin [p.fst,r.fst,r.snd,x,max p.fst r.fst] [] (.g (.c V3) (.A (.c V1) (.c V2))) [.c V0 (.A V1 V2),.d V3 V4,.d V4 V0] rfl ov.1 hx z0) (fun z0=>lin [r.snd,x,max p.fst r.fst,r.fst] [] (.g (.c V1) (.A (.c V3) (.c V0))) [.b K1 V0,.d V1 V2,.d V2 V3] rfl O.1 hx z0)⟩⟩
  exact Reach.trans (.step (Ek st ha c1 rfl) near_d c2) (Cl st n c2 hb (by dsimp only;exact ah (lin [n] [b.snd,a.snd] (.f V0 (.A (.A V1 K1) (.c V0))) [.h V0 (.A V1 (.c (.A V0 K1)))] rfl e) (lin [n] [b.snd,a.snd] (.f (.A (.A V1 K1) (.c V0)) V0) [.H (-1) V0 (.A V1 (.c (.A V0 K1)))] rfl e)))
theorem Cv{ev:Bool}{w:Nat}{L:List (Nat×Nat)}(st:Strips ev w L):LW (Ae (L.map (AD w))):=by
 intro a ha b hb
 by_cases h:a.2<=b.2
 ·exact Cl st (b.2 - a.2).toNat ha hb (by exact ah (lin [(b.snd - a.snd).toNat] [b.snd,a.snd] (.f V0 (.A V1 (.c V0))) [.f (.S V0 V1) (.c V0)] rfl (aK (b.snd - a.snd))) (lin [(b.snd - a.snd).toNat] [b.snd,a.snd] (.f (.A V1 (.c V0)) V0) [.h (.c V0) (.S V0 V1)] rfl (au (lin [] [a.snd,b.snd] (.f K0 (.S V1 V0)) [.f V0 V1] rfl h))))
 ·exact (Cl st (a.2 - b.2).toNat hb ha (by exact ah (lin [(a.snd - b.snd).toNat] [a.snd,b.snd] (.f V0 (.A V1 (.c V0))) [.f (.S V0 V1) (.c V0)] rfl (aK (a.snd - b.snd))) (lin [(a.snd - b.snd).toNat] [a.snd,b.snd] (.f (.A V1 (.c V0)) V0) [.h (.c V0) (.S V0 V1)] rfl (au (lin [] [a.snd,b.snd] (.f K0 (.S V0 V1)) [.k V0 V1] rfl h))))).symm hb
theorem El{ev:Bool}{w:Nat}{L:List (Nat×Nat)}(st:Strips ev w L){k:Sp}(hk:k∈AK (Ae (L.map (AD w))) w L.length):Reach (AK (Ae (L.map (AD w))) w L.length) k (-1,-1):=by
 obtain ⟨x,y⟩:=k;obtain ⟨⟨⟨x1,x2⟩,y1,y2⟩,hn⟩:=around_mem.mp hk;dsimp only at x1 x2 y1 y2;have out:∀u v:Int,-1<=u->u<=w->-1<=v->v<=L.length->(u<0\/(w:Int)<=u\/v<0\/(L.length:Int)<=v)->(u,v)∈AK (Ae (L.map (AD w))) w L.length:=fun u v a b c d e=>by
  refine around_mem.mpr ⟨⟨⟨a,b⟩,c,d⟩,fun q=>?_⟩;refine Ao ((AN st).mp q) fun q1 Z0=>?_;refine X1pp Z0 fun p q2 q3=>?_;dsimp only at q1 q2 q3;have B:=st.ok p (af q2)
  have:v.toNat<L.length:=by
   rcases bJ v.toNat L.length with z | z
   ·exact z
   ·rw [ba z] at q2;cases q2
  exact e.elim (fun z0=>lin [p.fst] [u] .no [.f (.c V0) V0,.g V0 K0] rfl q3.1 z0) (fun z0=>z0.elim (fun z1=>lin [p.fst,p.snd,w] [u] .no [.g V0 (.A (.c V0) (.c V1)),.b (.A V0 V1) V2,.f (.c V2) V0] rfl q3.2 B.2.1 z1) (fun z1=>z1.elim (fun z2=>lin [] [v] .no [.f K0 V0,.g V0 K0] rfl q1 z2) (fun z2=>lin [v.toNat,L.length] [v] .no [.c V0 V1,.f V0 (.c V0),.f (.c V1) V0] rfl this (aK v) z2)))
 have left:∀v:Int,-1<=v->v<=L.length->Reach (AK (Ae (L.map (AD w))) w L.length) (-1,v) (-1,-1):=fun v a b=>go_col a fun u hu=>out _ _ (by exact lin [] [] (.f Km1 Km1) [] rfl) (by exact lin [w] [] (.f Km1 (.c V0)) [] rfl) (by exact lin [] [u] (.f Km1 V0) [.f Km1 V0] rfl hu.1) (by exact lin [L.length] [v,u] (.f V1 (.c V0)) [.f V0 (.c V0),.f V1 V0] rfl b hu.2) (.inl (by exact lin [] [] (.g Km1 K0) [] rfl))
 by_cases hy:0<=y/\y<L.length
 ·have hl:y.toNat<L.length:=by exact lin [L.length,y.toNat] [y] (.c V1 V0) [.g V0 (.c V0),.h (.c V1) V0] rfl hy.2 (au (lin [] [y] (.f K0 V0) [.f K0 V0] rfl hy.1))
  have hp:L[y.toNat]?=some L[y.toNat]:=aE hl;generalize L[y.toNat]=p at hp;have free:∀u:Int,-1<=u->u<=w->¬((p.1:Int)<=u/\u<p.1+p.2)->(u,y)∈AK (Ae (L.map (AD w))) w L.length:=fun u a b c=>by
   refine around_mem.mpr ⟨⟨⟨a,b⟩,by dsimp only;exact lin [] [y] (.f Km1 V0) [.f K0 V0] rfl hy.1,by dsimp only;exact lin [L.length] [y] (.f V0 (.c V0)) [.g V0 (.c V0)] rfl hy.2⟩,fun q=>?_⟩
   refine Ao ((AN st).mp q) fun Z Z1=>?_;refine X1pp Z1 fun p' q2 q3=>?_;dsimp only at q2 q3;rw [hp] at q2;cases q2;exact c q3
  have nx:¬((p.1:Int)<=x/\x<p.1+p.2):=fun q=>hn ((AN st).mpr ⟨hy.1,p,hp,q⟩)
  by_cases hx:x<p.1
  ·exact Reach.trans (FN fun u hu=>free u (by exact (a9.mp nx).elim (fun z0=>hu.elim (fun z1=>lin [] [u] (.f Km1 V0) [.f Km1 V0] rfl z1.1) (fun z1=>lin [] [x,u] (.f Km1 V1) [.f Km1 V0,.f V0 V1] rfl x1 z1.1)) (fun z0=>lin [p.fst,p.snd] [x,u] (.F 0 Km1 V1) [.g V0 (.c V0),.l V0 (.A (.c V0) (.c V1))] rfl hx z0)) (by exact (a9.mp nx).elim (fun z0=>hu.elim (fun z1=>lin [w] [x,u] (.f V1 (.c V0)) [.f V0 (.c V0),.f V1 V0] rfl x2 z1.2) (fun z1=>lin [w] [u] (.f V0 (.c V0)) [.f V0 Km1] rfl z1.2)) (fun z0=>lin [p.fst,p.snd,w] [x,u] (.F 0 V1 (.c V2)) [.g V0 (.c V0),.l V0 (.A (.c V0) (.c V1))] rfl hx z0)) (by exact fun z0=>(a9.mp nx).elim (fun z1=>hu.elim (fun z2=>lin [p.fst] [x,u] .no [.g V0 (.c V0),.f (.c V0) V1,.f V1 V0] rfl hx z0.1 z2.2) (fun z2=>lin [p.fst] [u] .no [.f (.c V0) V0,.f V0 Km1] rfl z0.1 z2.2)) (fun z1=>lin [p.fst,p.snd] [x] .no [.g V0 (.c V0),.l V0 (.A (.c V0) (.c V1))] rfl hx z1))) (left y (by exact lin [] [y] (.f Km1 V0) [.f K0 V0] rfl hy.1) (by exact lin [L.length] [y] (.f V0 (.c V0)) [.g V0 (.c V0)] rfl hy.2))
  ·refine Reach.trans (b:=((w:Int),y)) (FN fun u hu=>free u (by exact (a9.mp nx).elim (fun z0=>lin [p.fst] [x,u] (.F 0 Km1 V1) [.l V0 (.c V0),.k (.c V0) V0] rfl hx z0) (fun z0=>hu.elim (fun z1=>lin [w] [u] (.f Km1 V0) [.f (.c V0) V0] rfl z1.1) (fun z1=>lin [p.fst] [x,u] (.f Km1 V1) [.l V0 (.c V0),.f V0 V1] rfl hx z1.1))) (by exact (a9.mp nx).elim (fun z0=>lin [p.fst,w] [x,u] (.F 0 V1 (.c V1)) [.l V0 (.c V0),.k (.c V0) V0] rfl hx z0) (fun z0=>hu.elim (fun z1=>lin [w] [x,u] (.f V1 (.c V0)) [.f V0 (.c V0),.f V1 V0] rfl x2 z1.2) (fun z1=>lin [w] [u] (.f V0 (.c V0)) [.f V0 (.c V0)] rfl z1.2))) (by exact fun z0=>(a9.mp nx).elim (fun z1=>lin [p.fst] [x] .no [.l V0 (.c V0),.k (.c V0) V0] rfl hx z1) (fun z1=>hu.elim (fun z2=>lin [w,p.fst,p.snd] [x,u] .no [.f V0 (.c V0),.g V1 (.A (.c V1) (.c V2)),.l V0 (.A (.c V1) (.c V2)),.f (.c V0) V1] rfl x2 z0.2 z1 z2.1) (fun z2=>lin [p.fst,p.snd] [u,x] .no [.g V0 (.A (.c V0) (.c V1)),.l V1 (.A (.c V0) (.c V1)),.f V1 V0] rfl z0.2 z1 z2.1)))) ?_
   refine Reach.trans (b:=((w:Int),-1)) (go_col (by exact lin [] [y] (.f Km1 V0) [.f K0 V0] rfl hy.1) fun u hu=>out _ _ (by exact lin [w] [] (.f Km1 (.c V0)) [] rfl) (by exact lin [w] [] (.f (.c V0) (.c V0)) [] rfl) (by exact lin [] [u] (.f Km1 V0) [.f Km1 V0] rfl hu.1) (by exact lin [L.length] [y,u] (.f V1 (.c V0)) [.g V0 (.c V0),.f V1 V0] rfl hy.2 hu.2) (.inr (.inl (by exact lin [w] [] (.f (.c V0) (.c V0)) [] rfl)))) ?_
   exact FN fun u hu=>out _ _ (by exact (a9.mp nx).elim (fun z0=>lin [p.fst] [x,u] (.F 0 Km1 V1) [.l V0 (.c V0),.k (.c V0) V0] rfl hx z0) (fun z0=>hu.elim (fun z1=>lin [] [u] (.f Km1 V0) [.f Km1 V0] rfl z1.1) (fun z1=>lin [w] [u] (.f Km1 V0) [.f (.c V0) V0] rfl z1.1))) (by exact (a9.mp nx).elim (fun z0=>lin [p.fst,w] [x,u] (.F 0 V1 (.c V1)) [.l V0 (.c V0),.k (.c V0) V0] rfl hx z0) (fun z0=>hu.elim (fun z1=>lin [w] [u] (.f V0 (.c V0)) [.f V0 (.c V0)] rfl z1.2) (fun z1=>lin [w] [u] (.f V0 (.c V0)) [.f V0 Km1] rfl z1.2))) (by exact lin [] [] (.f Km1 Km1) [] rfl) (by exact lin [L.length] [] (.f Km1 (.c V0)) [] rfl) (.inr (.inr (.inl (by exact lin [] [] (.g Km1 K0) [] rfl))))
 ·refine Reach.trans (b:=(-1,y)) (FN fun u hu=>out _ _ (by exact (a9.mp hy).elim (fun z0=>hu.elim (fun z1=>lin [] [u] (.f Km1 V0) [.f Km1 V0] rfl z1.1) (fun z1=>lin [] [x,u] (.f Km1 V1) [.f Km1 V0,.f V0 V1] rfl x1 z1.1)) (fun z0=>hu.elim (fun z1=>lin [] [u] (.f Km1 V0) [.f Km1 V0] rfl z1.1) (fun z1=>lin [] [x,u] (.f Km1 V1) [.f Km1 V0,.f V0 V1] rfl x1 z1.1))) (by exact (a9.mp hy).elim (fun z0=>hu.elim (fun z1=>lin [w] [x,u] (.f V1 (.c V0)) [.f V0 (.c V0),.f V1 V0] rfl x2 z1.2) (fun z1=>lin [w] [u] (.f V0 (.c V0)) [.f V0 Km1] rfl z1.2)) (fun z0=>hu.elim (fun z1=>lin [w] [x,u] (.f V1 (.c V0)) [.f V0 (.c V0),.f V1 V0] rfl x2 z1.2) (fun z1=>lin [w] [u] (.f V0 (.c V0)) [.f V0 Km1] rfl z1.2))) (by exact lin [] [y] (.f Km1 V0) [.f Km1 V0] rfl y1) (by exact lin [L.length] [y] (.f V0 (.c V0)) [.f V0 (.c V0)] rfl y2) (.inr (.inr (by exact bQ fun z0=>(a9.mp hy).elim (fun z1=>lin [] [y] .no [.l V0 K0,.k K0 V0] rfl (fun z=>z0 (.inl z)) z1) (fun z1=>lin [L.length] [y] .no [.k (.c V0) V0,.l V0 (.c V0)] rfl (fun z=>z0 (.inr z)) z1))))) (left y (by exact lin [] [y] (.f Km1 V0) [.f Km1 V0] rfl y1) (by exact lin [L.length] [y] (.f V0 (.c V0)) [.f V0 (.c V0)] rfl y2))
end
section
theorem Flo.of{G:Gr}{w:Nat}(g:Grid G w)(hc:Ae G≠[])(j:LW (Ae G))(o:∀k∈AK (Ae G) w G.length,Reach (AK (Ae G) w G.length) k (-1,-1)):Flo G w:=by
 refine ⟨g,?_,fun k hk=>(o k hk).symm hk⟩
 cases e:Ae G with
 | nil=>exact absurd e hc
 | cons a P' =>
  refine ⟨a,P',rfl,fun k hk=>?_⟩;rw [<- e] at hk ⊢;exact j a (by rw [e];exact .head _) k hk
theorem Iy{ev:Bool}{w:Nat}{L:List (Nat×Nat)}(w2:2<=w)(w6:w<=6)(h1:1<=L.length)(h6:L.length<=6)(st:Strips ev w L):Flo (L.map (AD w)) w:=by
 refine Flo.of (Gv st h1 h6 w2 w6) ?_ (Cv st) fun k hk=>?_
 ·cases L with
  | nil=>exact absurd h1 (by decide)
  | cons p L =>
   have u:=st.ok p (.head _);intro e
   have:((p.1:Int),(0:Int))∈Ae ((p::L).map (AD w)):=(AN st).mpr ⟨eT _,p,rfl,by dsimp only;exact ⟨lin [p.fst] [] (.f (.c V0) (.c V0)) [] rfl,lin [p.snd,p.fst] [] (.g (.c V1) (.A (.c V1) (.c V0))) [.b K1 V0] rfl u.1⟩⟩
   rw [e] at this;cases this
 ·rw [aj] at hk ⊢
  exact El st hk
theorem GR{a:Int}:∀{n i:Nat},i<n->(ivs a n)[i]?=some (a+i)
 | 0,_,h=>absurd h (d3 _)
 | n+1,0,_=>by show some a=_;rw [show a+((0:Nat):Int)=a by exact ah (lin [] [a] (.f (.A V0 (.c K0)) V0) [] rfl) (lin [] [a] (.f V0 (.A V0 (.c K0))) [] rfl)]
 | n+1,i+1,h=>by
  show (ivs (a+1) n)[i]?=_;rw [GR (dY h)]
  congr 1
  exact ah (lin [i] [a] (.f (.A (.A V0 K1) (.c V0)) (.A V0 (.c (.A V0 K1)))) [] rfl) (lin [i] [a] (.f (.A V0 (.c (.A V0 K1))) (.A (.A V0 K1) (.c V0))) [] rfl)
theorem Jr{G:Gr}{w:Nat}(g:Grid G w):Grid (trG G w) G.length:=by
 have h1:=g.w1;have h2:=g.w6;refine ⟨?_,?_,g.h1,g.h6,fun r hr=>?_⟩
 ·unfold trG;rw [aj,AA];exact h1
 ·unfold trG;rw [aj,AA];exact h2
 ·refine X1pr r (aZ.mp hr) fun x Z=>?_
  unfold colG;rw [aj]
theorem De{G:Gr}{w:Nat}(g:Grid G w){k:Sp}:k∈Ae (trG G w)↔sw k∈Ae G:=by
 constructor
 ·intro h
  refine B0 ((Jr g).in h) fun h1 h2 h3 h4=>?_;have hw:(trG G w).length=w:=by unfold trG;rw [aj,AA]
  rw [hw] at h4;refine Ao (cellsOf_mem.mp h) fun Z Z0=>?_;refine X1ppp Z0 fun r q1 Z q2=>?_;unfold trG at q1;rw [aW,GR (by exact lin [w,k.snd.toNat] [k.snd] (.c V1 V0) [.g V0 (.c V0),.h (.c V1) V0] rfl h4 (au (lin [] [k.snd] (.f K0 V0) [.f K0 V0] rfl h3)))] at q1
  cases q1
  unfold colG at q2;rw [aW] at q2;refine cellsOf_mem.mpr ⟨h1,?_⟩
  cases e:G[k.1.toNat]? with
  | none=>rw [e] at q2;cases q2
  | some r =>
   rw [e] at q2;have q2:r.getD (0+(k.2.toNat:Int)).toNat false=true:=ar q2;rw [show (0+(k.2.toNat:Int)).toNat=k.2.toNat by omega] at q2
   refine ⟨r,e,h3,?_⟩;rw [az] at q2;show r[k.2.toNat]?=some true
   cases e2:r[k.2.toNat]? with
   | none=>rw [e2] at q2;cases q2
   | some b=>rw [e2] at q2;rw [show b=true from q2]
 ·intro h
  refine B0 (g.in h) fun h1 h2 h3 h4=>?_;refine Ao (cellsOf_mem.mp h) fun Z Z1=>?_;refine X1ppp Z1 fun r q1 Z q2=>?_;have h1:0<=k.2:=h1;have h2:k.2<w:=h2;have q1:G[k.1.toNat]?=some r:=q1;have q2:r[k.2.toNat]?=some true:=q2;refine cellsOf_mem.mpr ⟨h1,colG G (0+(k.2.toNat:Int)),?_,h3,?_⟩
  ·unfold trG;rw [aW,GR (by exact lin [w,k.snd.toNat] [k.snd] (.c V1 V0) [.g V0 (.c V0),.h (.c V1) V0] rfl h2 (au (lin [] [k.snd] (.f K0 V0) [.f K0 V0] rfl h1)))];rfl
  ·unfold colG
   rw [aW,q1];show some (r.getD (0+(k.2.toNat:Int)).toNat false)=some true;rw [show (0+(k.2.toNat:Int)).toNat=k.2.toNat by omega,az,q2];rfl
theorem Iv(k:Sp):sw (sw k)=k:=rfl
theorem tr_flo{G:Gr}{w:Nat}(g:Grid G w)(hc:Ae G≠[])(j:LW (Ae G))(o:∀k∈AK (Ae G) w G.length,Reach (AK (Ae G) w G.length) k (-1,-1)):Flo (trG G w) G.length:=by
 have hw:(trG G w).length=w:=by unfold trG;rw [aj,AA]
 refine Flo.of (Jr g) ?_ (fun a ha b hb=>?_) fun k hk=>?_
 ·intro e
  cases e2:Ae G with
  | nil=>exact hc e2
  | cons a P' =>
   have:sw a∈Ae (trG G w):=(De g).mpr (by rw [Iv,e2];exact .head _)
   rw [e] at this;cases this
 ·have:=Reach.into (Q:=Ae (trG G w)) sw (fun c hc=>(De g).mpr (by rw [Iv];exact hc)) Gu (j _ ((De g).mp ha) _ ((De g).mp hb))
  rwa [Iv,Iv] at this
 ·rw [hw] at hk ⊢
  have mem:∀c,c∈AK (Ae (trG G w)) G.length w↔sw c∈AK (Ae G) w G.length:=fun c=>by
   rw [around_mem,around_mem,De g];exact ⟨fun h=>⟨⟨h.1.2,h.1.1⟩,h.2⟩,fun h=>⟨⟨h.1.2,h.1.1⟩,h.2⟩⟩
  have:=Reach.into (Q:=AK (Ae (trG G w)) G.length w) sw (fun c hc=>(mem _).mpr (by rw [Iv];exact hc)) Gu (o _ ((mem k).mp hk))
  rwa [Iv] at this
noncomputable def grow(P fs:List Sp):List Sp:=P.foldl (fun fs k=>if (!(fs.contains k) && fs.any fun c=>(A2 c).contains k)=true then fs++[k] else fs) fs
noncomputable def growN(P:List Sp):Nat->List Sp->List Sp
 | 0,fs=>fs
 | n+1,fs=>growN P n (grow P fs)
set_option tactic.hygienic true in
theorem KI{P:List Sp}{a:Sp}:∀{Q fs:List Sp},(∀k∈Q,k∈P)->(∀k∈fs,Reach P a k)->∀k∈Q.foldl (fun fs k=>if (!(fs.contains k) && fs.any fun c=>(A2 c).contains k)=true then fs++[k] else fs) fs,Reach P a k
 | [],fs,_,h,k,hk=>h k hk
 | q::Q,fs,hQ,h,k,hk=>by
  rw [cT] at hk;refine KI (Q:=Q) (fun z hz=>hQ z (.tail _ hz)) (fun z hz=>?_) k hk
  split at hz
  ·rename_i c
   rcases aN.mp hz with z1 | z1
   ·exact h z z1
   ·rw [aJ.mp z1]
    refine X1pp (dO.mp (aU.mp c).2) fun c1 O c2=>?_;exact .step (h c1 O) (fq.mp c2) (hQ q (.head _))
  ·exact h z hz
theorem growN_ok{P:List Sp}{a:Sp}:∀{n:Nat}{fs:List Sp},(∀k∈fs,Reach P a k)->∀k∈growN P n fs,Reach P a k
 | 0,fs,h=>h
 | n+1,fs,h=>growN_ok (n:=n) (KI (fun Z h=>h) h)
noncomputable def hangB(P:List Sp)(a:Sp):Bool:=P.all fun k=>(growN P 10 [a]).contains k
theorem HL{P:List Sp}{a:Sp}(h:hangB P a=true):Hangs P a:=fun k hk =>
 growN_ok (n:=10) (fs:=[a]) (fun k hk=>by rw [aJ.mp hk];exact .refl) k (fq.mp (cA.mp h k hk))
noncomputable def floB(G:Gr)(w:Nat):Bool:=(decide (1<=G.length/\G.length<=6/\1<=w/\w<=6) && G.all fun r=>r.length == w) && ((match Ae G with
 | []=>false
 | a::_=>hangB (Ae G) a) && hangB (AK (Ae G) w G.length) (-1,-1))
theorem Flo.ofB{G:Gr}{w:Nat}(h:floB G w=true):Flo G w:=by
 unfold floB at h;rw [bE,bE,bE,decide_eq_true_eq] at h;obtain ⟨⟨⟨h1,h2,h3,h4⟩,h5⟩,h6,h7⟩:=h;refine ⟨⟨h1,h2,h3,h4,fun r hr=>eq_of_beq (cA.mp h5 r hr)⟩,?_,HL h7⟩
 cases e:Ae G with
 | nil=>rw [e] at h6;cases h6
 | cons a P'=>rw [e] at h6;exact ⟨a,P',rfl,HL h6⟩
noncomputable def gOf(l:List String):Gr:=l.map fun s=>s.toList.map fun c=>c == '#'
end
section
theorem Dv{l:List String}{G:Gr}(h:l.map bX=G.map B5):(l.map fun s=>AV.str (bX s))=AC G:=by
 have:=congrArg (List.map AV.str) h
 rw [bc,bc] at this;exact this
theorem four{x:Int}(h:0<=x/\x<4):x.toNat=0\/x.toNat=1\/x.toNat=2\/x.toNat=3:=by
 obtain ⟨n,rfl⟩:=cu h.1
 match n,h.2 with
 | 0,_=>exact .inl rfl
 | 1,_=>exact .inr (.inl rfl)
 | 2,_=>exact .inr (.inr (.inl rfl))
 | 3,_=>exact .inr (.inr (.inr rfl))
 | n+4,h=>exact absurd (iv.mp h) (cO.mpr (Nat.le_add_left 4 n))
noncomputable def corC(G:Gr)(w:Nat):List Af:=(box (ivs 0 (w+1)) (ivs 0 (G.length+1))).filter fun k=>decide (k∈BN (Ae G))
theorem ivs_up{a:Int}:∀{n:Nat},(ivs a n).Pairwise (·<·)
 | 0=>.nil
 | n+1=>eR.mpr ⟨fun x hx=>by rw [ivs_mem] at hx;exact lin [] [a,x] (.g V0 V1) [.f (.A V0 K1) V1] rfl hx.1,ivs_up⟩
theorem box_up{xs:List Int}(hx:xs.Pairwise (·<·)):∀{ys:List Int},ys.Pairwise (·<·)->(box xs ys).Pairwise lt2
 | [],_=>.nil
 | y::ys,hy=>by
  rw [eR] at hy;show ((xs.map fun x=>(x,y))++box xs ys).Pairwise lt2;refine List.pairwise_append.mpr ⟨cM.mpr (hx.imp fun h=>.inr ⟨rfl,h⟩),box_up hx hy.2,fun a ha b hb=>?_⟩;refine X1pr a (aZ.mp ha) fun x Z=>?_;exact .inl (hy.1 _ (box_mem.mp hb).2)
theorem Grid.cor{G:Gr}{w:Nat}(g:Grid G w):Cor (Ae G) (corC G w):=by
 have h6:=g.h6;have w6:=g.w6;refine ⟨(box_up ivs_up ivs_up).filter _,fun k=>?_,?_⟩
 ·unfold corC
  rw [dD,decide_eq_true_eq,cornF_mem];refine ⟨fun h=>h.2,fun h=>⟨?_,h⟩⟩;refine X1pp h fun c hc hk=>?_;refine B0 (g.in hc) fun q1 q2 q3 q4=>?_;rw [box_mem,ivs_mem,ivs_mem];unfold Bm at hk;simp only [aD,bn,or_false] at hk
  rcases hk with rfl | rfl | rfl | rfl<;>dsimp only<;>omega
 ·refine cW (d5 _ _) ?_
  rw [G6,AA,AA];exact cW (dQ (show G.length+1<=7 by exact lin [bR G] [] (.b (.A V0 K1) K7) [.b V0 K6] rfl h6) (show w+1<=7 by exact lin [w] [] (.b (.A V0 K1) K7) [.b V0 K6] rfl w6)) (by decide)
end
section
noncomputable def sg(k:Sp):Int:=match dark k with
 | true=>1
 | false=>-1
theorem Gz{a b:Sp}(h:b∈A2 a):sg b=- sg a:=by
 unfold sg;rw [BW h]
 cases dark a<;>rfl
noncomputable def Mt(P:List Sp)(m:Sp->Sp):Prop:=∀x∈P,m x∈nbP P x/\m (m x)=x
noncomputable def stp(P:List Sp)(m:Sp->Sp)(l r:Sp):Int:=if l∈P/\m l=r then -3 * sg l else sg l
theorem Dp{P:List Sp}{m:Sp->Sp}(M:Mt P m){l r:Sp}(n:r∈A2 l):stp P m r l=- stp P m l r:=by
 have e:=Gz n;unfold stp
 by_cases q:l∈P/\m l=r
 ·have:r∈P/\m r=l:=⟨q.2▸(nbP_mem.mp (M l q.1).1).2.2,q.2▸(M l q.1).2⟩
  rw [if_pos q,if_pos this,e];exact ah (lin [] [sg l] (.f (.M (-3) (.N V0)) (.N (.M (-3) V0))) [] rfl) (lin [] [sg l] (.f (.N (.M (-3) V0)) (.M (-3) (.N V0))) [] rfl)
 ·have:¬(r∈P/\m r=l):=fun z=>q ⟨z.2▸(nbP_mem.mp (M r z.1).1).2.2,z.2▸(M r z.1).2⟩
  rw [if_neg q,if_neg this,e]
structure HT(P:List Sp)(m:Sp->Sp)(h:Sp->Int):Prop where
 r:∀x y,(x,y - 1)∈P\/(x,y)∈P->h (x+1,y) - h (x,y)=stp P m (x,y - 1) (x,y)
 d:∀x y,(x,y)∈P\/(x - 1,y)∈P->h (x,y+1) - h (x,y)=stp P m (x,y) (x - 1,y)
inductive Hd(x y:Int):Sp->Sp->Sp->Sp->Prop
 | r:Hd x y (1,0) (x+1,y) (x,y - 1) (x,y)
 | d:Hd x y (0,1) (x,y+1) (x,y) (x - 1,y)
 | l:Hd x y (-1,0) (x - 1,y) (x - 1,y) (x - 1,y - 1)
 | u:Hd x y (0,-1) (x,y - 1) (x - 1,y - 1) (x,y - 1)
noncomputable def ways:List Sp:=[(1,0),(0,1),(-1,0),(0,-1)]
theorem HT.way{P:List Sp}{m:Sp->Sp}{h:Sp->Int}(H:HT P m h)(M:Mt P m){x y:Int}{w o l r:Sp}(hd:Hd x y w o l r)(q:l∈P\/r∈P):h o - h (x,y)=stp P m l r:=by
 cases hd with
 | r=>exact H.r x y q
 | d=>exact H.d x y q
 | l =>
  have:=H.r (x - 1) y q.symm
  rw [bj] at this;rw [Dp M (Bu DI),<- this];exact ah (lin [] [h (x - 1,y),h (x,y)] (.f (.S V0 V1) (.N (.S V1 V0))) [] rfl) (lin [] [h (x,y),h (x - 1,y)] (.f (.N (.S V0 V1)) (.S V1 V0)) [] rfl)
 | u =>
  have:=H.d x (y - 1) q.symm
  rw [bj] at this;rw [Dp M DJ,<- this];exact ah (lin [] [h (x,y - 1),h (x,y)] (.f (.S V0 V1) (.N (.S V1 V0))) [] rfl) (lin [] [h (x,y),h (x,y - 1)] (.f (.N (.S V0 V1)) (.S V1 V0)) [] rfl)
noncomputable def Fo(x y:Int)(k:Sp):Prop:=(k.1=x - 1\/k.1=x)/\(k.2=y - 1\/k.2=y)
noncomputable def mir(x y:Int):Bool->Sp->Sp
 | false,k=>(2 * x - 1 - k.1,k.2)
 | true,k=>(k.1,2 * y - 1 - k.2)
theorem Hu{x y:Int}{v:Bool}{k:Sp}(h:Fo x y k):Fo x y (mir x y v k):=by
 refine Ao h fun h1 h2=>?_
 cases v with
 | false=>exact ⟨by show 2 * x - 1 - k.1=_\/2 * x - 1 - k.1=_;exact bQ fun z0=>h1.elim (fun z1=>h2.elim (fun z2=>(aQ (fun z=>z0 (.inr z))).elim (fun z4=>lin [] [k.fst,x] .no [.h V0 (.S V1 K1),.g (.S (.S (.M 2 V1) K1) V0) V1] rfl z1 z4) (fun z4=>lin [] [k.fst,x] .no [.H (-1) V0 (.S V1 K1),.g V1 (.S (.S (.M 2 V1) K1) V0)] rfl z1 z4)) (fun z2=>(aQ (fun z=>z0 (.inr z))).elim (fun z4=>lin [] [k.fst,x] .no [.h V0 (.S V1 K1),.g (.S (.S (.M 2 V1) K1) V0) V1] rfl z1 z4) (fun z4=>lin [] [k.fst,x] .no [.H (-1) V0 (.S V1 K1),.g V1 (.S (.S (.M 2 V1) K1) V0)] rfl z1 z4))) (fun z1=>h2.elim (fun z2=>(aQ (fun z=>z0 (.inl z))).elim (fun z3=>lin [] [k.fst,x] .no [.h V0 V1,.g (.S (.S (.M 2 V1) K1) V0) (.S V1 K1)] rfl z1 z3) (fun z3=>lin [] [k.fst,x] .no [.H (-1) V0 V1,.g (.S V1 K1) (.S (.S (.M 2 V1) K1) V0)] rfl z1 z3)) (fun z2=>(aQ (fun z=>z0 (.inl z))).elim (fun z3=>lin [] [k.fst,x] .no [.h V0 V1,.g (.S (.S (.M 2 V1) K1) V0) (.S V1 K1)] rfl z1 z3) (fun z3=>lin [] [k.fst,x] .no [.H (-1) V0 V1,.g (.S V1 K1) (.S (.S (.M 2 V1) K1) V0)] rfl z1 z3))),h2⟩
 | true=>exact ⟨h1,by show 2 * y - 1 - k.2=_\/2 * y - 1 - k.2=_;exact bQ fun z0=>h1.elim (fun z1=>h2.elim (fun z2=>(aQ (fun z=>z0 (.inr z))).elim (fun z4=>lin [] [k.snd,y] .no [.h V0 (.S V1 K1),.g (.S (.S (.M 2 V1) K1) V0) V1] rfl z2 z4) (fun z4=>lin [] [k.snd,y] .no [.H (-1) V0 (.S V1 K1),.g V1 (.S (.S (.M 2 V1) K1) V0)] rfl z2 z4)) (fun z2=>(aQ (fun z=>z0 (.inl z))).elim (fun z3=>lin [] [k.snd,y] .no [.h V0 V1,.g (.S (.S (.M 2 V1) K1) V0) (.S V1 K1)] rfl z2 z3) (fun z3=>lin [] [k.snd,y] .no [.H (-1) V0 V1,.g (.S V1 K1) (.S (.S (.M 2 V1) K1) V0)] rfl z2 z3))) (fun z1=>h2.elim (fun z2=>(aQ (fun z=>z0 (.inr z))).elim (fun z4=>lin [] [k.snd,y] .no [.h V0 (.S V1 K1),.g (.S (.S (.M 2 V1) K1) V0) V1] rfl z2 z4) (fun z4=>lin [] [k.snd,y] .no [.H (-1) V0 (.S V1 K1),.g V1 (.S (.S (.M 2 V1) K1) V0)] rfl z2 z4)) (fun z2=>(aQ (fun z=>z0 (.inl z))).elim (fun z3=>lin [] [k.snd,y] .no [.h V0 V1,.g (.S (.S (.M 2 V1) K1) V0) (.S V1 K1)] rfl z2 z3) (fun z3=>lin [] [k.snd,y] .no [.H (-1) V0 V1,.g (.S V1 K1) (.S (.S (.M 2 V1) K1) V0)] rfl z2 z3)))⟩
theorem Kc{x y:Int}{v:Bool}{k:Sp}:mir x y v (mir x y v k)=k:=by
 cases v with
 | false=>exact bH (by show 2 * x - 1 - (2 * x - 1 - k.1)=k.1;exact ah (lin [] [x,k.fst] (.f (.S (.S (.M 2 V0) K1) (.S (.S (.M 2 V0) K1) V1)) V1) [] rfl) (lin [] [k.fst,x] (.f V0 (.S (.S (.M 2 V1) K1) (.S (.S (.M 2 V1) K1) V0))) [] rfl)) rfl
 | true=>exact bH rfl (by show 2 * y - 1 - (2 * y - 1 - k.2)=k.2;exact ah (lin [] [y,k.snd] (.f (.S (.S (.M 2 V0) K1) (.S (.S (.M 2 V0) K1) V1)) V1) [] rfl) (lin [] [k.snd,y] (.f V0 (.S (.S (.M 2 V1) K1) (.S (.S (.M 2 V1) K1) V0))) [] rfl))
theorem mir_near{x y:Int}{v:Bool}{k:Sp}(h:Fo x y k):mir x y v k∈A2 k:=by
 obtain ⟨a,b⟩:=k;refine Ao h fun h1 h2=>?_;dsimp only at h1 h2
 cases v with
 | false =>
  show (2 * x - 1 - a,b)∈_
  rcases h1 with e | e
  ·rw [show 2 * x - 1 - a=a+1 by exact ah (lin [] [a,x] (.f (.S (.S (.M 2 V1) K1) V0) (.A V0 K1)) [.H (-2) V0 (.S V1 K1)] rfl e) (lin [] [a,x] (.f (.A V0 K1) (.S (.S (.M 2 V1) K1) V0)) [.H 2 V0 (.S V1 K1)] rfl e)];exact AW .r
  ·rw [show 2 * x - 1 - a=a - 1 by exact ah (lin [] [a,x] (.f (.S (.S (.M 2 V1) K1) V0) (.S V0 K1)) [.H (-2) V0 V1] rfl e) (lin [] [a,x] (.f (.S V0 K1) (.S (.S (.M 2 V1) K1) V0)) [.H 2 V0 V1] rfl e)];exact AW .l
 | true =>
  show (a,2 * y - 1 - b)∈_
  rcases h2 with e | e
  ·rw [show 2 * y - 1 - b=b+1 by exact ah (lin [] [b,y] (.f (.S (.S (.M 2 V1) K1) V0) (.A V0 K1)) [.H (-2) V0 (.S V1 K1)] rfl e) (lin [] [b,y] (.f (.A V0 K1) (.S (.S (.M 2 V1) K1) V0)) [.H 2 V0 (.S V1 K1)] rfl e)];exact AW .d
  ·rw [show 2 * y - 1 - b=b - 1 by exact ah (lin [] [b,y] (.f (.S (.S (.M 2 V1) K1) V0) (.S V0 K1)) [.H (-2) V0 V1] rfl e) (lin [] [b,y] (.f (.S V0 K1) (.S (.S (.M 2 V1) K1) V0)) [.H 2 V0 V1] rfl e)];exact AW .u
structure Tn(P:List Sp)(x y:Int)(v:Bool)(m m':Sp->Sp):Prop where
 inP:∀k,Fo x y k->k∈P
 p:∀k,Fo x y k->m k=mir x y v k
 p':∀k,Fo x y k->m' k=mir x y (!v) k
 o:∀k,¬Fo x y k->m' k=m k
theorem Tn.mt{P:List Sp}{x y:Int}{v:Bool}{m m':Sp->Sp}(T:Tn P x y v m m')(M:Mt P m):Mt P m':=fun k hk=>by
 by_cases f:Fo x y k
 ·rw [T.p' k f]
  exact ⟨nbP_mem.mpr ⟨hk,mir_near f,T.inP _ (Hu f)⟩,by rw [T.p' _ (Hu f),Kc]⟩
 ·have nf:¬Fo x y (m k):=fun z=>f (by rw [<- (M k hk).2,T.p _ z];exact Hu z)
  rw [T.o k f,T.o _ nf];exact M k hk
theorem Tn.same{P:List Sp}{x y:Int}{v:Bool}{m m':Sp->Sp}(T:Tn P x y v m m'){l r:Sp}(n:¬(Fo x y l/\Fo x y r)):stp P m' l r=stp P m l r:=by
 unfold stp
 by_cases f:Fo x y l
 ·have ne:∀{v},mir x y v l≠r:=fun {v} e=>n ⟨f,e▸Hu f⟩
  rw [T.p l f,T.p' l f,if_neg fun z=>ne z.2,if_neg fun z=>ne z.2]
 ·rw [T.o l f]
noncomputable def hq(v:Bool):Int:=match v with
 | true=>-3
 | false=>1
theorem stp_r{P:List Sp}{x y u:Int}{v:Bool}{m:Sp->Sp}(B:∀k,Fo x y k->k∈P)(p:∀k,Fo x y k->m k=mir x y v k)(hu:u=x - 1\/u=x):stp P m (u,y - 1) (u,y)=hq v * sg (u,y - 1):=by
 have f:Fo x y (u,y - 1):=⟨hu,.inl rfl⟩;unfold stp;rw [p _ f]
 cases v with
 | true=>rw [if_pos ⟨B _ f,bH rfl (by show 2 * y - 1 - (y - 1)=y;exact ah (lin [] [y] (.f (.S (.S (.M 2 V0) K1) (.S V0 K1)) V0) [] rfl) (lin [] [y] (.f V0 (.S (.S (.M 2 V0) K1) (.S V0 K1))) [] rfl))⟩];rfl
 | false=>rw [if_neg fun z=>by have:y - 1=y:=congrArg gG z.2;exact lin [] [y] .no [.H (-1) (.S V0 K1) V0] rfl this];show _=1 * _;exact ah (lin [] [sg (u,y - 1)] (.f V0 (.M 1 V0)) [] rfl) (lin [] [sg (u,y - 1)] (.f (.M 1 V0) V0) [] rfl)
theorem stp_d{P:List Sp}{x y u:Int}{v:Bool}{m:Sp->Sp}(B:∀k,Fo x y k->k∈P)(p:∀k,Fo x y k->m k=mir x y v k)(hu:u=y - 1\/u=y):stp P m (x,u) (x - 1,u)=hq (!v) * sg (x,u):=by
 have f:Fo x y (x,u):=⟨.inr rfl,hu⟩;unfold stp;rw [p _ f]
 cases v with
 | false=>rw [if_pos ⟨B _ f,bH (by show 2 * x - 1 - x=x - 1;exact ah (lin [] [x] (.f (.S (.S (.M 2 V0) K1) V0) (.S V0 K1)) [] rfl) (lin [] [x] (.f (.S V0 K1) (.S (.S (.M 2 V0) K1) V0)) [] rfl)) rfl⟩];rfl
 | true=>rw [if_neg fun z=>by have:x=x - 1:=congrArg fU z.2;exact lin [] [x] .no [.h V0 (.S V0 K1)] rfl this];show _=1 * _;exact ah (lin [] [sg (x,u)] (.f V0 (.M 1 V0)) [] rfl) (lin [] [sg (x,u)] (.f (.M 1 V0) V0) [] rfl)
noncomputable def hup(x y:Int)(v:Bool)(h:Sp->Int)(k:Sp):Int:=if k=(x,y) then h k+(hq v * sg (x,y - 1) - hq (!v) * sg (x,y - 1)) else h k
theorem Tn.ht{P:List Sp}{x y:Int}{v:Bool}{m m':Sp->Sp}{h:Sp->Int}(T:Tn P x y v m m')(H:HT P m h):HT P m' (hup x y v h):=by
 have at_:hup x y v h (x,y)=h (x,y)+(hq v * sg (x,y - 1) - hq (!v) * sg (x,y - 1)):=if_pos rfl;have Y:∀{k},k≠(x,y)->hup x y v h k=h k:=fun n=>if_neg n;have s1:sg (x - 1,y - 1)=- sg (x,y - 1):=Gz DJ;have s2:sg (x,y)=- sg (x,y - 1):=Gz (Bu DI);have nx:∀{a b:Int},a≠x->((a,b):Sp)≠(x,y):=fun n e=>n (congrArg fU e);have ny:∀{a b:Int},b≠y->((a,b):Sp)≠(x,y):=fun n e=>n (congrArg gG e);have O:∀z:Int,z - 1≠z:=fun z=>by exact fun z0=>lin [] [z] .no [.H (-1) (.S V0 K1) V0] rfl z0
 have u:∀z:Int,z+1≠z:=fun z=>by exact fun z0=>lin [] [z] .no [.h (.A V0 K1) V0] rfl z0
 refine ⟨fun a b q=>?_,fun a b q=>?_⟩
 ·have B:=H.r a b q
  by_cases e:b=y/\(a=x - 1\/a=x)
  ·obtain ⟨rfl,e⟩:=e
   rw [stp_r T.inP T.p e] at B;rw [stp_r T.inP T.p' e]
   rcases e with rfl | rfl
   ·rw [bj,s1,Int.mul_neg] at B
    rw [bj,at_,Y (nx (O _)),s1,Int.mul_neg];clear T H q nx ny O u Y at_ s1 s2;exact ah (lin [] [h (x,b),h (x - 1,b),hq v * sg (x,b - 1),(hq !v) * sg (x,b - 1)] (.f (.S (.A V0 (.S V2 V3)) V1) (.N V3)) [.h (.S V0 V1) (.N V2)] rfl B) (lin [] [h (x,b),h (x - 1,b),hq v * sg (x,b - 1),(hq !v) * sg (x,b - 1)] (.f (.N V3) (.S (.A V0 (.S V2 V3)) V1)) [.H (-1) (.S V0 V1) (.N V2)] rfl B)
   ·rw [at_,Y (nx (u _))]
    clear T H q nx ny O u Y at_ s1 s2;exact ah (lin [] [h (a+1,b),h (a,b),hq v * sg (a,b - 1),(hq !v) * sg (a,b - 1)] (.f (.S V0 (.A V1 (.S V2 V3))) V3) [.h (.S V0 V1) V2] rfl B) (lin [] [h (a+1,b),h (a,b),hq v * sg (a,b - 1),(hq !v) * sg (a,b - 1)] (.f V3 (.S V0 (.A V1 (.S V2 V3)))) [.H (-1) (.S V0 V1) V2] rfl B)
  ·have n1:¬(Fo x y (a,b - 1)/\Fo x y (a,b)):=fun ⟨z,z'⟩=>e ⟨by have h1:=z.2;have h2:=z'.2;dsimp only at h1 h2;clear T H q nx ny O u Y at_ s1 s2 z z' e B;exact ah (h1.elim (fun z0=>lin [] [b,y] (.f V0 V1) [.h (.S V0 K1) (.S V1 K1)] rfl z0) (fun z0=>h2.elim (fun z1=>lin [] [b,y] (.f V0 V1) [.h V0 (.S V1 K1)] rfl z1) (fun z1=>lin [] [b,y] (.f V0 V1) [.h V0 V1] rfl z1))) (h1.elim (fun z0=>lin [] [b,y] (.f V1 V0) [.H (-1) (.S V0 K1) (.S V1 K1)] rfl z0) (fun z0=>lin [] [b,y] (.f V1 V0) [.H (-1) (.S V0 K1) V1] rfl z0)),z'.1⟩
   rw [T.same n1,Y fun z=>e ⟨congrArg gG z,.inl (by have h1:a+1=x:=congrArg fU z;clear T H q nx ny O u Y at_ s1 s2 z n1 e B;exact ah (lin [] [a,x] (.f V0 (.S V1 K1)) [.h (.A V0 K1) V1] rfl h1) (lin [] [a,x] (.f (.S V1 K1) V0) [.H (-1) (.A V0 K1) V1] rfl h1))⟩,Y fun z=>e ⟨congrArg gG z,.inr (congrArg fU z)⟩]
   exact B
 ·have B:=H.d a b q
  by_cases e:a=x/\(b=y - 1\/b=y)
  ·obtain ⟨rfl,e⟩:=e
   rw [stp_d T.inP T.p e] at B;rw [stp_d T.inP T.p' e,Bool.not_not]
   rcases e with rfl | rfl
   ·rw [bj] at B
    rw [bj,at_,Y (ny (O _))];clear T H q nx ny O u Y at_ s1 s2;exact ah (lin [] [h (a,y),h (a,y - 1),(hq !v) * sg (a,y - 1),hq v * sg (a,y - 1)] (.f (.S (.A V0 (.S V3 V2)) V1) V3) [.h (.S V0 V1) V2] rfl B) (lin [] [h (a,y),h (a,y - 1),(hq !v) * sg (a,y - 1),hq v * sg (a,y - 1)] (.f V3 (.S (.A V0 (.S V3 V2)) V1)) [.H (-1) (.S V0 V1) V2] rfl B)
   ·rw [s2,Int.mul_neg] at B
    rw [at_,Y (ny (u _)),s2,Int.mul_neg];clear T H q nx ny O u Y at_ s1 s2;exact ah (lin [] [h (a,b+1),h (a,b),(hq !v) * sg (a,b - 1),hq v * sg (a,b - 1)] (.f (.S V0 (.A V1 (.S V3 V2))) (.N V3)) [.h (.S V0 V1) (.N V2)] rfl B) (lin [] [h (a,b+1),h (a,b),(hq !v) * sg (a,b - 1),hq v * sg (a,b - 1)] (.f (.N V3) (.S V0 (.A V1 (.S V3 V2)))) [.H (-1) (.S V0 V1) (.N V2)] rfl B)
  ·have n1:¬(Fo x y (a,b)/\Fo x y (a - 1,b)):=fun ⟨z,z'⟩=>e ⟨by have h1:=z.1;have h2:=z'.1;dsimp only at h1 h2;clear T H q nx ny O u Y at_ s1 s2 z z' e B;exact ah (h1.elim (fun z0=>lin [] [a,x] (.f V0 V1) [.h V0 (.S V1 K1)] rfl z0) (fun z0=>lin [] [a,x] (.f V0 V1) [.h V0 V1] rfl z0)) (h1.elim (fun z0=>h2.elim (fun z1=>lin [] [a,x] (.f V1 V0) [.H (-1) (.S V0 K1) (.S V1 K1)] rfl z1) (fun z1=>lin [] [a,x] (.f V1 V0) [.H (-1) (.S V0 K1) V1] rfl z1)) (fun z0=>lin [] [a,x] (.f V1 V0) [.H (-1) V0 V1] rfl z0)),z.2⟩
   rw [T.same n1,Y fun z=>e ⟨congrArg fU z,.inl (by have h1:b+1=y:=congrArg gG z;clear T H q nx ny O u Y at_ s1 s2 z n1 e B;exact ah (lin [] [b,y] (.f V0 (.S V1 K1)) [.h (.A V0 K1) V1] rfl h1) (lin [] [b,y] (.f (.S V1 K1) V0) [.H (-1) (.A V0 K1) V1] rfl h1))⟩,Y fun z=>e ⟨congrArg fU z,.inr (congrArg gG z)⟩]
   exact B
theorem near_sw{a b:Sp}(h:b∈A2 a):sw b∈A2 (sw a):=Gu _ _ h
theorem Mt.sw{P P':List Sp}{m:Sp->Sp}(M:Mt P m)(hP:∀k,k∈P'↔sw k∈P):Mt P' fun k=>sw (m (sw k)):=fun k hk=>by
 refine Ao (M _ ((hP k).mp hk)) fun h1 h2=>?_;refine Bp (nbP_mem.mp h1) fun Z n1 n2=>?_;exact ⟨nbP_mem.mpr ⟨hk,near_sw n1,(hP _).mpr n2⟩,congrArg Mine.Internal.sw h2⟩
theorem sg_sw(k:Sp):sg (sw k)=sg k:=by
 unfold sg dark sw;rw [Int.add_comm]
theorem HT.sw{P P':List Sp}{m:Sp->Sp}{h:Sp->Int}(H:HT P m h)(M:Mt P m)(hP:∀k,k∈P'↔sw k∈P):HT P' (fun k=>Mine.Internal.sw (m (Mine.Internal.sw k))) fun k=>- h (Mine.Internal.sw k):=by
 have e:∀l r,stp P' (fun k=>Mine.Internal.sw (m (Mine.Internal.sw k))) l r=stp P m (Mine.Internal.sw l) (Mine.Internal.sw r):=fun l r=>by
  unfold stp
  have:(l∈P'/\Mine.Internal.sw (m (Mine.Internal.sw l))=r)↔(Mine.Internal.sw l∈P/\m (Mine.Internal.sw l)=Mine.Internal.sw r):=and_congr (hP l) ⟨fun z=>by rw [<- z];rfl,fun z=>by rw [z];rfl⟩
  rw [sg_sw]
  by_cases q:Mine.Internal.sw l∈P/\m (Mine.Internal.sw l)=Mine.Internal.sw r
  ·rw [if_pos q,if_pos (this.mpr q)]
  ·rw [if_neg q,if_neg fun z=>q (this.mp z)]
 refine ⟨fun x y q=>?_,fun x y q=>?_⟩
 ·have:=H.d y x (q.symm.imp (hP _).mp (hP _).mp)
  rw [e,show Mine.Internal.sw (x,y - 1)=(y - 1,x) from rfl,show Mine.Internal.sw (x,y)=(y,x) from rfl,Dp M DJ,<- this]
  show - h (y,x+1) - - h (y,x)=_;exact ah (lin [] [h (y,x+1),h (y,x)] (.f (.S (.N V0) (.N V1)) (.N (.S V0 V1))) [] rfl) (lin [] [h (y,x+1),h (y,x)] (.f (.N (.S V0 V1)) (.S (.N V0) (.N V1))) [] rfl)
 ·have:=H.r y x (q.symm.imp (hP _).mp (hP _).mp)
  rw [e,show Mine.Internal.sw (x - 1,y)=(y,x - 1) from rfl,show Mine.Internal.sw (x,y)=(y,x) from rfl,Dp M (Bu DI),<- this]
  show - h (y+1,x) - - h (y,x)=_;exact ah (lin [] [h (y+1,x),h (y,x)] (.f (.S (.N V0) (.N V1)) (.N (.S V0 V1))) [] rfl) (lin [] [h (y+1,x),h (y,x)] (.f (.N (.S V0 V1)) (.S (.N V0) (.N V1))) [] rfl)
noncomputable def flM(b:Int->Int)(k:Sp):Sp:=if (k.1 - b k.2) % 2=0 then (k.1+1,k.2) else (k.1 - 1,k.2)
noncomputable def eb(k:Sp):Int:=match dark k with
 | true=>0
 | false=>-1
theorem sg_eb(k:Sp):sg k=2 * eb k+1:=by
 unfold sg eb
 cases dark k<;>rfl
theorem GZ{a b:Sp}(h:b∈A2 a):eb b=-1 - eb a:=by
 unfold eb;rw [BW h]
 cases dark a<;>rfl
theorem sg_par(x b y:Int):sg (x,y)=if (x - b) % 2=0 then sg (b,y) else - sg (b,y):=by
 unfold sg dark;dsimp only;rw [dv _ (by decide),dv _ (by decide)]
 by_cases q:(x - b) % 2=0
 ·rw [if_pos q,show (x+y) % 2=(b+y) % 2 by omega]
 ·rw [if_neg q]
  rcases Int.emod_two_eq (b+y) with e | e
  ·rw [e,show (x+y) % 2=1 by omega];rfl
  ·rw [e,show (x+y) % 2=0 by omega];rfl
noncomputable def flA(b:Int->Int):Nat->Int
 | 0=>0
 | n+1=>flA b n+2 * sg (b n,n)
noncomputable def flH(b:Int->Int)(k:Sp):Int:=flA b k.2.toNat+eb k
theorem fl_mt{P:List Sp}{b:Int->Int}(hP:∀k∈P,flM b k∈P):Mt P (flM b):=fun k hk=>by
 have h1:=hP k hk;obtain ⟨x,y⟩:=k;unfold flM at h1 ⊢;dsimp only at h1 ⊢
 by_cases q:(x - b y) % 2=0
 ·rw [if_pos q] at h1 ⊢
  rw [if_neg (by dsimp only;omega)]
  exact ⟨nbP_mem.mpr ⟨hk,AW .r,h1⟩,bH (bI _ _) rfl⟩
 ·rw [if_neg q] at h1 ⊢
  rw [if_pos (by dsimp only;omega)]
  exact ⟨nbP_mem.mpr ⟨hk,AW .l,h1⟩,bH (bj _ _) rfl⟩
theorem fl_up{b:Int->Int}{y:Int}(y0:0<=y):flA b (y+1).toNat=flA b y.toNat+2 * sg (b y,y):=by
 refine X1l y (cu y0) fun n=>?_
 rfl
theorem fl_ht{P:List Sp}{b:Int->Int}(h0:∀k∈P,0<=k.2)(hP:∀k∈P,flM b k∈P):HT P (flM b) (flH b):=by
 refine ⟨fun x y q=>?_,fun x y q=>?_⟩
 ·unfold stp
  rw [if_neg]
  ·have e1:eb (x+1,y)=-1 - eb (x,y):=GZ (AW .r)
   have e2:eb (x,y - 1)=-1 - eb (x,y):=GZ (AW .u);have e3:=sg_eb (x,y - 1);show flA b y.toNat+eb (x+1,y) - (flA b y.toNat+eb (x,y))=_;clear h0 hP q;exact ah (lin [] [eb (x+1,y),eb (x,y),eb (x,y - 1),sg (x,y - 1),flA b y.toNat] (.f (.S (.A V4 V0) (.A V4 V1)) V3) [.h V0 (.S Km1 V1),.H (-2) V2 (.S Km1 V1),.H (-1) V3 (.A (.M 2 V2) K1)] rfl e1 e2 e3) (lin [] [eb (x+1,y),eb (x,y),eb (x,y - 1),sg (x,y - 1),flA b y.toNat] (.f V3 (.S (.A V4 V0) (.A V4 V1))) [.H (-1) V0 (.S Km1 V1),.H 2 V2 (.S Km1 V1),.h V3 (.A (.M 2 V2) K1)] rfl e1 e2 e3)
  ·intro B
   refine Ao B fun Z e=>?_
   have:y - 1=y:=by
    have:=congrArg gG e
    unfold flM at this
    split at this<;>exact this
   clear h0 hP q e;exact lin [] [y] .no [.H (-1) (.S V0 K1) V0] rfl this
 ·have y0:0<=y:=q.elim (h0 _) (h0 _)
  have up:=fl_up (b:=b) y0;have e1:eb (x,y+1)=-1 - eb (x,y):=GZ (AW .d);have e3:=sg_eb (x,y);have e4:=sg_par x (b y) y;unfold stp;show flA b (y+1).toNat+eb (x,y+1) - (flA b y.toNat+eb (x,y))=_
  by_cases z:(x - b y) % 2=0
  ·rw [if_pos z] at e4
   have m:flM b (x,y)=(x+1,y):=if_pos z;rw [if_neg fun w=>by
    have:x+1=x - 1:=congrArg fU (m.symm.trans w.2)
    clear h0 hP q e1 e3 e4 up w;exact lin [] [x] .no [.h (.A V0 K1) (.S V0 K1)] rfl this]
   clear h0 hP q m z;exact ah (lin [] [flA b (y+1).toNat,flA b y.toNat,sg (b y,y),eb (x,y+1),eb (x,y),sg (x,y)] (.f (.S (.A V0 V3) (.A V1 V4)) V5) [.h V0 (.A V1 (.M 2 V2)),.h V3 (.S Km1 V4),.h V5 (.A (.M 2 V4) K1),.H (-2) V5 V2] rfl up e1 e3 e4) (lin [] [flA b (y+1).toNat,flA b y.toNat,sg (b y,y),eb (x,y+1),eb (x,y),sg (x,y)] (.f V5 (.S (.A V0 V3) (.A V1 V4))) [.H (-1) V0 (.A V1 (.M 2 V2)),.H (-1) V3 (.S Km1 V4),.H (-1) V5 (.A (.M 2 V4) K1),.H 2 V5 V2] rfl up e1 e3 e4)
  ·rw [if_neg z] at e4
   have m:flM b (x,y)=(x - 1,y):=if_neg z;rw [if_pos ⟨q.elim id fun r=>by
    have:=hP _ r
    unfold flM at this;rw [if_pos (by dsimp only;clear h0 hP q e1 e3 e4 up this m;omega)] at this
    rwa [show ((x - 1+1,y):Sp)=(x,y) by rw [bj]] at this,m⟩]
   clear h0 hP q m z;exact ah (lin [] [flA b (y+1).toNat,flA b y.toNat,sg (b y,y),eb (x,y+1),eb (x,y),sg (x,y)] (.f (.S (.A V0 V3) (.A V1 V4)) (.M (-3) V5)) [.h V0 (.A V1 (.M 2 V2)),.h V3 (.S Km1 V4),.h V5 (.A (.M 2 V4) K1),.H 2 V5 (.N V2)] rfl up e1 e3 e4) (lin [] [flA b (y+1).toNat,flA b y.toNat,sg (b y,y),eb (x,y+1),eb (x,y),sg (x,y)] (.f (.M (-3) V5) (.S (.A V0 V3) (.A V1 V4))) [.H (-1) V0 (.A V1 (.M 2 V2)),.H (-1) V3 (.S Km1 V4),.H (-1) V5 (.A (.M 2 V4) K1),.H (-2) V5 (.N V2)] rfl up e1 e3 e4)
end
section
noncomputable def Eg(P:List Sp)(k c:Sp):Prop:=∃w l r,Hd k.1 k.2 w c l r/\(l∈P\/r∈P)
theorem BY{k c:Sp}(h1:k.1=c.1\/k.1=c.1+1)(h2:k.2=c.2\/k.2=c.2+1):k∈Bm c:=by
 obtain ⟨a,b⟩:=k;dsimp only at h1 h2
 rcases h1 with rfl | rfl<;>rcases h2 with rfl | rfl
 ·exact .head _
 ·exact .tail _ (.tail _ (.head _))
 ·exact .tail _ (.head _)
 ·exact .tail _ (.tail _ (.tail _ (.head _)))
theorem Eg.in{P C:List Sp}(hC:Cor P C){k c:Sp}(e:Eg P k c):c∈C:=by
 refine X3pp e fun w l r hd q=>?_
 have:c∈Bm l/\c∈Bm r:=by
  cases hd with
  | r=>exact ⟨BY (.inr rfl) (.inr (bj ..).symm),BY (.inr rfl) (.inl rfl)⟩
  | d=>exact ⟨BY (.inl rfl) (.inr rfl),BY (.inr (bj ..).symm) (.inr rfl)⟩
  | l=>exact ⟨BY (.inl rfl) (.inl rfl),BY (.inl rfl) (.inr (bj ..).symm)⟩
  | u=>exact ⟨BY (.inr (bj ..).symm) (.inl rfl),BY (.inl rfl) (.inl rfl)⟩
 exact (hC.mem c).mpr (q.elim (fun q=>⟨l,q,this.1⟩) fun q=>⟨r,q,this.2⟩)
theorem Hangs.corners{P C S:List Sp}{a:Sp}(H:Hangs P a)(hC:Cor P C)(ha:a∈P)(aS:a∈S)(cl:∀k∈S,∀c,Eg P k c->c∈S):∀k∈C,k∈S:=by
 have cells:∀k,Reach P a k->k∈P/\k∈S:=fun k h=>by
  induction h with
  | refl=>exact ⟨ha,aS⟩
  | @step b c _ hn hp ih =>
   refine ⟨hp,cl b ih.2 c ?_⟩
   cases E3 hn with
   | u=>exact ⟨_,_,_,.u,.inr hp⟩
   | l=>exact ⟨_,_,_,.l,.inl hp⟩
   | r=>exact ⟨_,_,_,.r,.inr ih.1⟩
   | d=>exact ⟨_,_,_,.d,.inl ih.1⟩
 intro k hk;refine X1pp ((hC.mem k).mp hk) fun c hc hk=>?_;have cS:=(cells c (H c hc)).2;have rS:(c.1+1,c.2)∈S:=cl _ cS _ ⟨_,_,_,.r,.inr hc⟩;have dS:(c.1,c.2+1)∈S:=cl _ cS _ ⟨_,_,_,.d,.inl hc⟩;have bS:(c.1+1,c.2+1)∈S:=cl _ rS _ ⟨_,_,_,.d,.inr (by show (c.1+1 - 1,c.2)∈P;rw [bI];exact hc)⟩
 unfold Bm at hk;simp only [aD,bn,or_false] at hk
 rcases hk with rfl | rfl | rfl | rfl
 ·exact cS
 ·exact rS
 ·exact dS
 ·exact bS
theorem Dfs.corners{P C fs:List Sp}{a:Sp}(h:Dfs (Eg P) (·∈C) a fs [])(H:Hangs P a)(hC:Cor P C)(ha:a∈P)(k:Sp):k∈fs↔k∈C :=
 ⟨h.rc k,H.corners hC ha h.ha (fun k hk c e=>h.cl k hk bn c e) k⟩
theorem ways_hd{x y:Int}{w:Sp}(h:w∈ways):∃l r,Hd x y w (x+w.1,y+w.2) l r:=by
 unfold ways at h;simp only [aD,bn,or_false] at h
 rcases h with rfl | rfl | rfl | rfl
 ·exact ⟨_,_,(bH rfl (bB y).symm:((x+1,y):Sp)=(x+1,y+0))▸Hd.r⟩
 ·exact ⟨_,_,(bH (bB x).symm rfl:((x,y+1):Sp)=(x+0,y+1))▸Hd.d⟩
 ·exact ⟨_,_,(bH rfl (bB y).symm:((x - 1,y):Sp)=(x+-1,y+0))▸Hd.l⟩
 ·exact ⟨_,_,(bH (bB x).symm rfl:((x,y - 1):Sp)=(x+0,y+-1))▸Hd.u⟩
noncomputable def Hr(b:Int):List Int->Bool
 | []=>true
 | x::r=>(match r with
  | []=>false
  | y::r=>((x - b) % 2 == 0) && ((y == x+1) && Hr b r))
theorem Cz{b x y:Int}{r:List Int}(h:Hr b (x::y::r)=true):(x - b) % 2=0/\y=x+1/\Hr b r=true:=by
 have h:(((x - b) % 2 == 0) && ((y == x+1) && Hr b r))=true:=h;refine Ao (aU.mp h) fun h1 h=>?_;refine Ao (aU.mp h) fun h2 h3=>?_;exact ⟨eq_of_beq h1,eq_of_beq h2,h3⟩
theorem JY{b:Int}:∀{xs:List Int},Hr b xs=true->∀x∈xs,(if (x - b) % 2=0 then x+1 else x - 1)∈xs
 | [],_,x,h=>by cases h
 | [_],h,_,_=>by cases h
 | u::v::r,h,x,hx=>by
  refine Bp (Cz h) fun h1 Z0 h3=>?_;clear h;subst Z0
  cases hx with
  | head=>rw [if_pos h1];exact .tail _ (.head _)
  | tail _ hx =>
   cases hx with
   | head=>rw [if_neg (by omega),bI];exact .head _
   | tail _ hx=>exact .tail _ (.tail _ (JY h3 x hx))
theorem Hq{b:Int}:∀{xs:List Int},Hr b xs=true->∃h,xs.length=2 * h
 | [],_=>⟨0,rfl⟩
 | [_],h=>by cases h
 | u::v::r,h=>by
  refine X1p (Hq (Cz h).2.2) fun n e=>?_;exact ⟨n+1,by rw [aL,aL,e];exact aw (lin [n] [] (.b (.A (.A (.M 2 V0) K1) K1) (.M 2 (.A V0 K1))) [] rfl) (lin [n] [] (.b (.M 2 (.A V0 K1)) (.A (.A (.M 2 V0) K1) K1)) [] rfl)⟩
theorem par_at{b:Int}:∀{xs:List Int}{i:Nat},Hr b xs=true->2 * i<xs.length->∃u,xs[2 * i]?=some u/\xs[2 * i+1]?=some (u+1)/\(u - b) % 2=0/\xs.take (2 * (i+1))=xs.take (2 * i)++[u,u+1]
 | [],i,_,h=>absurd h (d3 _)
 | [_],_,h,_=>by cases h
 | u::v::r,0,h,_=>by
  refine Bp (Cz h) fun h1 Z0 h3=>?_;clear h;subst Z0;exact ⟨u,rfl,rfl,h1,rfl⟩
 | u::v::r,i+1,h,hl=>by
  refine X1pppp (par_at (i:=i) (Cz h).2.2 (by rw [aL,aL] at hl;exact lin [i,r.length] [] (.c (.M 2 V0) V1) [.c (.M 2 (.A V0 K1)) (.A (.A V1 K1) K1)] rfl hl)) fun z h1 h2 h3 h4=>?_
  refine ⟨z,h1,h2,h3,?_⟩;show u::v::r.take (2 * (i+1))=(u::v::r.take (2 * i))++_;rw [h4];rfl
theorem par_ivs(b:Int):∀n:Nat,Hr b (ivs b (2 * n))=true:=by
 have go:∀(n:Nat)(x:Int),(x - b) % 2=0->Hr b (ivs x (2 * n))=true:=fun n=>by
  induction n with
  | zero=>exact fun Z Z=>rfl
  | succ n ih =>
   intro x h;have e:ivs x (2 * (n+1))=x::(x+1)::ivs (x+1+1) (2 * n):=rfl;rw [e];exact aU.mpr ⟨beq_iff_eq.mpr h,aU.mpr ⟨beq_self_eq_true _,ih (x+1+1) (by omega)⟩⟩
 exact fun n=>go n b (by omega)
noncomputable def layM(P:List Sp)(m:Sp->Sp):List (Sp×Sp):=(P.filter fun c=>Hs c (m c)).map fun c=>(c,m c)
structure Hand(P:List Sp)(m:Sp->Sp)(H:List (Sp×Sp)):Prop where
 at_:∀q∈H,q.1∈P/\q.2=m q.1
 nd:(BX H).Nodup
 mem:∀k,k∈BX H↔k∈P
theorem CL(H K:List (Sp×Sp)):BX (H++K)=BX H++BX K:=gh
theorem Mt.ord{P:List Sp}{m:Sp->Sp}(M:Mt P m){x:Sp}(hx:x∈P):Hs x (m x)=true\/Hs (m x) x=true :=
 ordB_tot fun e=>by
  have:=BW (nbP_mem.mp (M x hx).1).2.1
  rw [<- e] at this
  cases q:dark x<;>rw [q] at this<;>cases this
theorem Mt.lay{P:List Sp}{m:Sp->Sp}(M:Mt P m)(nd:P.Nodup):Hand P m (layM P m):=by
 have at_:∀q∈layM P m,q.1∈P/\q.2=m q.1:=fun q hq=>by
  refine X1pr q (aZ.mp hq) fun c hc=>?_;exact ⟨(dD.mp hc).1,rfl⟩
 refine ⟨at_,F0 (nd.filter _) fun a ha=>?_,fun k=>⟨fun h=>?_,fun h=>?_⟩⟩
 ·refine Ao (dD.mp ha) fun h1 h2=>?_
  exact ⟨h2,(M a h1).2⟩
 ·refine X1pp (eA.mp h) fun q hq h=>?_
  refine Ao (at_ q hq) fun h1 h2=>?_
  cases h with
  | head=>exact h1
  | tail _ h =>
   cases h with
   | head=>rw [h2];exact (nbP_mem.mp (M _ h1).1).2.2
   | tail _ h=>cases h
 ·refine eA.mpr ?_
  rcases M.ord h with o | o
  ·exact ⟨(k,m k),aZ.mpr ⟨k,dD.mpr ⟨h,o⟩,rfl⟩,.head _⟩
  ·have h':=M k h
   exact ⟨(m k,m (m k)),aZ.mpr ⟨m k,dD.mpr ⟨(nbP_mem.mp h'.1).2.2,by rw [h'.2];exact o⟩,rfl⟩,by rw [h'.2];exact .tail _ (.head _)⟩
noncomputable def insG{α:Type}(l:List α)(k:Nat)(x:α):List α:=l.take k++x::l.drop k
structure Among(d H:List (Sp×Sp)):Prop where
 at_:∀q∈H,q∈d\/(q.2,q.1)∈d
 perm:(BX H).Perm (BX d)
theorem Among.put{d H:List (Sp×Sp)}(h:Among d H)(i:Nat){q z:Sp×Sp}(e:z=q\/z=(q.2,q.1)):Among (d++[q]) (insG H i z):=by
 have p2:[z.1,z.2].Perm [q.1,q.2]:=by
  rcases e with rfl | rfl
  ·exact .refl _
  ·exact .swap ..
 refine ⟨fun r hr=>?_,?_⟩
 ·rcases aN.mp hr with w | w
  ·exact (h.at_ r (List.mem_of_mem_take w)).imp (aX _) (aX _)
  ·cases w with
   | head =>
    rcases e with rfl | rfl
    ·exact .inl (aT _ (.head _))
    ·exact .inr (aT _ (.head _))
   | tail _ w=>exact (h.at_ r (List.mem_of_mem_drop w)).imp (aX _) (aX _)
 ·unfold insG
  rw [CL,CL]
  have:BX (z::H.drop i)=[z.1,z.2]++BX (H.drop i):=rfl
  rw [this];have e1:(BX (H.take i)++([z.1,z.2]++BX (H.drop i))).Perm (BX (H.take i)++(BX (H.drop i)++[z.1,z.2])):=List.Perm.append_left _ List.perm_append_comm;refine e1.trans ?_;rw [<- aI,<- CL,List.take_append_drop];exact List.Perm.append h.perm p2
theorem Hand.among{P:List Sp}{m:Sp->Sp}{d H:List (Sp×Sp)}(L:Hand P m d)(M:Mt P m)(h:Among d H):Hand P m H:=by
 refine ⟨fun q hq=>?_,h.perm.nodup_iff.mpr L.nd,fun k=>h.perm.mem_iff.trans (L.mem k)⟩
 rcases h.at_ q hq with w | w
 ·exact L.at_ q w
 ·refine Ao (L.at_ _ w) fun h1 h2=>?_
  have h2:q.1=m q.2:=h2;rw [h2];exact ⟨(nbP_mem.mp (M _ h1).1).2.2,(M _ h1).2.symm⟩
end
section
noncomputable def EK:Aq:=⟨[2224424541109078390632087655,2011653587633505230741569653],2,[.ite (.or [(.not (.call (.g 1) [(.v 1),(.g 4)])),(.cmp .NotEq (.call (.g 0) [(.v 1)]) (.int 2))]) [.ret (.bool false)] [],.ret (.and [(.meth (.v 0) 15 [(.sub (.v 1) (.int 0))]),(.meth (.v 0) 15 [(.sub (.v 1) (.int 1))]),(.cmp .In (.sub (.v 1) (.int 1)) (.call (.g 34) [(.sub (.v 1) (.int 0))]))])]⟩
noncomputable def CR:Aq:=⟨[2224424541109078390632087655,4705521001015047487082861862846577,1953625148292055806928486503,1972967859948727099564490865,448600976916592,2224424448875327235775529072],2,[.ite (.not (.call (.g 1) [(.v 1),(.g 5)])) [.raise (.call (.g 23) [(.str "a list of pieces is wanted")])] [],.assign (.v 2) (.mu 4 (.dict [] [])),.for_ (.v 3) (.v 1) [.ite (.not (.call (.g 38) [(.v 0),(.v 3)])) [.raise (.call (.g 23) [(.str "no piece of the floor")])] [],.for_ (.tup [(.v 4),(.v 5)]) (.list [(.v 3),(.slice (.v 3) .none .none (.neg (.int 1)))]) [.ite (.cmp .In (.v 4) (.v 2)) [.raise (.call (.g 23) [(.str "a cell that is covered twice")])] [],.setitem (.v 2) (.v 4) (.v 5)]],.ite (.cmp .NotEq (.call (.g 0) [(.v 2)]) (.call (.g 0) [(.meth (.v 0) 16 [])])) [.raise (.call (.g 23) [(.str "a cell that isn't covered")])] [],.ret (.v 2)]⟩
noncomputable def EL:Aq:=⟨[4664956181807845603384547380035684,536561879875704,121,122],2,[.assign (.tup [(.v 2),(.v 3)]) (.v 0),.ite (.cmp .Eq (.v 1) (.str "right")) [.ret (.tup [(.tup [(.v 2),(.bin .Sub (.v 3) (.int 1))]),(.tup [(.v 2),(.v 3)])])] [],.ret (.tup [(.tup [(.v 2),(.v 3)]),(.tup [(.bin .Sub (.v 2) (.int 1)),(.v 3)])])]⟩
noncomputable def EG:Aq:=⟨[2224424541109078390632087655,1953625148292055806928486503,4664956181807845603384547380035684,536561879875704,1005347983025963532392,1079134981311013322861,2263110102773107081860874355,2243767261989209681059381363],1,[.assign (.v 1) (.mu 4 (.list [])),.for_ (.v 2) (.meth (.v 0) 18 []) [.for_ (.tup [(.v 3),(.v 4)]) (.tup [(.tup [(.str "right"),(.tup [(.bin .Add (.sub (.v 2) (.int 0)) (.int 1)),(.sub (.v 2) (.int 1))])]),(.tup [(.str "down"),(.tup [(.sub (.v 2) (.int 0)),(.bin .Add (.sub (.v 2) (.int 1)) (.int 1))])])]) [.assign (.tup [(.v 5),(.v 6)]) (.call (.g 44) [(.v 2),(.v 3)]),.ite (.or [(.meth (.v 0) 15 [(.v 5)]),(.meth (.v 0) 15 [(.v 6)])]) [.assign (.v 7) (.or [(.and [(.meth (.v 0) 15 [(.v 5)]),(.call (.g 33) [(.v 5)])]),(.and [(.meth (.v 0) 15 [(.v 6)]),(.not (.call (.g 33) [(.v 6)]))])]),.expr (.meth (.v 1) 0 [(.tup [(.v 2),(.v 4),(.v 5),(.v 6),(.ite (.v 7) (.int 1) (.neg (.int 1)))])])] []]],.ret (.v 1)]⟩
noncomputable def Cj:Aq:=⟨[2224424541109078390632087655],1,[.ret (.sub (.meth (.v 0) 16 []) (.int 0))]⟩
noncomputable def c_heights_by:Aq:=⟨[2224424541109078390632087655,20695101327358604866032169404574743881989488753,2243767363446240513833828468,4664956181807845603384547380035684,1005347983025963532392,1079134981311013322861,2263110102773107081860874355,1023794753487939567732,1042241488765579165812,1953625148292055806928486503,8847346042641382399987775315101205135480,940784453534749818985],2,[.assign (.v 2) (.mu 4 (.dict [] [])),.for_ (.tup [(.v 3),(.v 4),(.v 5),(.v 6),(.v 7)]) (.call (.g 45) [(.v 0)]) [.assign (.v 8) (.v 7),.ite (.and [(.meth (.v 0) 15 [(.v 5)]),(.cmp .Eq (.sub (.v 1) (.v 5)) (.v 6))]) [.assign (.v 8) (.bin .Mult (.neg (.int 3)) (.v 7))] [],.expr (.meth (.meth (.v 2) 7 [(.v 3),(.list [])]) 0 [(.tup [(.v 4),(.v 8)])]),.expr (.meth (.meth (.v 2) 7 [(.v 4),(.list [])]) 0 [(.tup [(.v 3),(.bin .Sub (.int 0) (.v 8))])])],.assign (.v 9) (.mu 5 (.dict [(.call (.g 46) [(.v 0)])] [(.int 0)])),.assign (.v 10) (.mu 6 (.list [(.call (.g 46) [(.v 0)])])),.while_ (.cmp .Gt (.call (.g 0) [(.v 10)]) (.int 0)) [.assign (.v 11) (.meth (.v 10) 1 []),.for_ (.tup [(.v 4),(.v 8)]) (.sub (.v 2) (.v 11)) [.ite (.cmp .NotIn (.v 4) (.v 9)) [.setitem (.v 9) (.v 4) (.bin .Add (.sub (.v 9) (.v 11)) (.v 8)),.expr (.meth (.v 10) 0 [(.v 4)])] []]],.ret (.mu 7 (.call (.g 7) [(.comp (.tup [(.v 3),(.sub (.v 9) (.v 3))]) 3 (.meth (.v 0) 18 []) [])]))]⟩
noncomputable def Dl:Aq:=⟨[2224424541109078390632087655,4705521001015047487082861862846577],2,[.ret (.mu 4 (.call (.g 47) [(.v 0),(.call (.g 39) [(.v 0),(.v 1)])]))]⟩
noncomputable def CU:Aq:=⟨[43400774030903411559313583009360306713791419551580256,403752334065308102653787000012206599970895246591058502767404664596988000,91018018189733985137666135094806080181247385265940457324640,4948909800202173316588973022249056,9868193549052196435307839356599797809248,4908344980994869975741078519677024,4381002331299926544718449986240608,18197417524841213801143636359034529248444416096,90233375608933022600596502592366504807846208770953298575456],2,[.assign (.v 2) (.mu 4 (.dict [] [])),.for_ (.v 3) (.call (.g 8) [(.call (.g 0) [(.v 0)])]) [.assign (.v 4) (.comp (.v 5) 5 (.call (.g 8) [(.call (.g 0) [(.sub (.v 0) (.v 3))])]) [(.cmp .Eq (.sub (.sub (.v 0) (.v 3)) (.v 5)) (.str "#"))]),.for_ (.v 6) (.call (.g 8) [(.int 0),(.call (.g 0) [(.v 4)]),(.int 2)]) [.assign (.tup [(.v 7),(.v 8)]) (.tup [(.tup [(.sub (.v 4) (.v 6)),(.v 3)]),(.tup [(.sub (.v 4) (.bin .Add (.v 6) (.int 1))),(.v 3)])]),.ite (.v 1) [.assign (.tup [(.v 7),(.v 8)]) (.tup [(.tup [(.v 3),(.sub (.v 4) (.v 6))]),(.tup [(.v 3),(.sub (.v 4) (.bin .Add (.v 6) (.int 1)))])])] [],.setitem (.v 2) (.v 7) (.v 8),.setitem (.v 2) (.v 8) (.v 7)]],.ret (.v 2)]⟩
noncomputable def c_lturn:Aq:=⟨[91018018189733985137666135094806080181247385265940457324640,189233104125027351079044284948292633439235375036323580149648851040,4908344980994869975741078519677024,4948909800202173316588973022249056,18197417524841213801143636359034529248444416096,19981477906359192048674073130143504362914185312,80033085288931450417958380331566650385268273459796929151072,43026629254934777235276691597125805808210982694027360,38162750378649839618062290065254989900323531341693024,40781761134340005352671968699721311000275178949181536,90233375608933022600596502592366504807846208770953298575456],2,[.assign (.tup [(.v 2),(.v 3)]) (.v 1),.assign (.tup [(.v 4),(.v 5),(.v 6),(.v 7)]) (.tup [(.tup [(.bin .Sub (.v 2) (.int 1)),(.bin .Sub (.v 3) (.int 1))]),(.tup [(.v 2),(.bin .Sub (.v 3) (.int 1))]),(.tup [(.bin .Sub (.v 2) (.int 1)),(.v 3)]),(.tup [(.v 2),(.v 3)])]),.ite (.and [(.cmp .Eq (.meth (.v 0) 6 [(.v 4)]) (.v 5)),(.cmp .Eq (.meth (.v 0) 6 [(.v 6)]) (.v 7))]) [.assign (.v 8) (.list [(.tup [(.v 4),(.v 6)]),(.tup [(.v 5),(.v 7)])])] [.ite (.and [(.cmp .Eq (.meth (.v 0) 6 [(.v 4)]) (.v 6)),(.cmp .Eq (.meth (.v 0) 6 [(.v 5)]) (.v 7))]) [.assign (.v 8) (.list [(.tup [(.v 4),(.v 5)]),(.tup [(.v 6),(.v 7)])])] [.ret (.bool false)]],.for_ (.tup [(.v 9),(.v 10)]) (.v 8) [.setitem (.v 0) (.v 9) (.v 10),.setitem (.v 0) (.v 10) (.v 9)],.ret (.bool true)]⟩
noncomputable def Ci:Aq:=⟨[91018018189733985137666135094806080181247385265940457324640,189233104125022861345122375117010683388186817415792500651818221664,45645638940188833158982529341182163285935419805401184,79248450939308422951359488504115116927624233569666205745248,4381002331299926544718449986240608],3,[.assign (.v 3) (.mu 4 (.call (.g 7) [(.v 0)])),.for_ (.v 4) (.call (.g 8) [(.v 2)]) [.assign (.v 1) (.call (.g 73) [(.v 1),(.v 4)]),.expr (.call (.g 86) [(.v 3),(.tup [(.bin .Mod (.v 1) (.int 7)),(.bin .Mod (.bin .FloorDiv (.v 1) (.int 7)) (.int 7))])])],.ret (.v 3)]⟩
noncomputable def c_lfloor_by:Aq:=⟨[192524121870682778597944489011036038917448218529394060437475033184,40781761134340005352671968699721311000275178949181536,43400774030903411559313583009360306713791419551580256,403752334065308102653787000012206599970895246591058502767404664596988000,91018018189733985137666135094806080181247385265940457324640],1,[.assign (.v 1) (.call (.g 72) [(.v 0),(.int 0)]),.assign (.v 2) (.call (.g 75) [(.v 1),(.call (.g 72) [(.v 0),(.int 1)]),(.bool true)]),.ite (.cmp .Eq (.bin .Mod (.v 1) (.int 7)) (.int 6)) [.assign (.v 2) (.sub (.list [(.list [(.str "##..##"),(.str "##..##"),(.str "######")]),(.list [(.str "######"),(.str "....##"),(.str "##..##"),(.str "##..##"),(.str "######")]),(.list [(.str "##..##"),(.str "######"),(.str "##..##"),(.str "##..##")]),(.list [(.str "##..##"),(.str "##..##"),(.str "######"),(.str "##..##"),(.str "##..##")])]) (.bin .Mod (.bin .FloorDiv (.v 1) (.int 7)) (.int 4)))] [],.assign (.v 3) (.cmp .Eq (.bin .Mod (.bin .FloorDiv (.v 1) (.int 30)) (.int 2)) (.int 1)),.assign (.v 4) (.call (.g 85) [(.v 2),(.v 3)]),.ite (.v 3) [.assign (.v 2) (.call (.g 74) [(.v 2)])] [],.ret (.tup [(.v 2),(.v 4)])]⟩
noncomputable def Ly:Aq:=⟨[91018018189733985137666135094806080181247385265940457324640,79248450939308422951359488504115116927624233569666205745248,40781761134340005352671968699721311000275178949181536],1,[.assign (.v 1) (.comp (.tup [(.v 2),(.sub (.v 0) (.v 2))]) 2 (.v 0) [(.cmp .Lt (.call (.g 89) [(.v 2)]) (.call (.g 89) [(.sub (.v 0) (.v 2))]))]),.ret (.mu 4 (.sorted (.v 1) (.g 91)))]⟩
noncomputable def Ic:Aq:=⟨[80033084540640292827120509455944254106483492226642776948832],1,[.ret (.call (.g 89) [(.sub (.v 0) (.int 0))])]⟩
noncomputable def F6:Aq:=⟨[91018018189733985137666135094806080181247385265940457324640,189233104125022861345122375117010683388186817415792500651818221664,79248450939308422951359488504115116927624233569666205745248,4381002331299926544718449986240608,80033084540640292827120509455944254106483492226642776948832,38162750378649839618062290065254989900323531341693024],2,[.assign (.v 2) (.mu 4 (.list [])),.for_ (.tup [(.v 3),(.v 4)]) (.call (.g 9) [(.call (.g 90) [(.v 0)])]) [.assign (.v 5) (.sub (.list [(.v 4),(.tup [(.sub (.v 4) (.int 1)),(.sub (.v 4) (.int 0))])]) (.bin .Mod (.bin .FloorDiv (.call (.g 73) [(.v 1),(.v 3)]) (.int 7)) (.int 2))),.expr (.meth (.v 2) 2 [(.bin .Mod (.bin .FloorDiv (.call (.g 73) [(.v 1),(.v 3)]) (.int 14)) (.bin .Add (.call (.g 0) [(.v 2)]) (.int 1))),(.v 5)])],.ret (.v 2)]⟩
noncomputable def c_lstep:Aq:=⟨[91018018189733985137666135094806080181247385265940457324640,189233104125027351079044284948292633439235375036323580149648851040,21765535650688745529293003453417576092175171680,4908344980994869975741078519677024,4948909800202173316588973022249056,43774915417157925000048287816275511605040227033284704,91802652165212771854791526496275117499616717914179597500512,40407617785618723452755380057004259600605075239600224,1548065105748371235835565186513595288627984830138641075998525973848831355894661906528],3,[.assign (.tup [(.v 3),(.v 4)]) (.v 1),.assign (.tup [(.v 5),(.v 6)]) (.sub (.dict [(.tup [(.int 1),(.int 0)]),(.tup [(.int 0),(.int 1)]),(.tup [(.neg (.int 1)),(.int 0)]),(.tup [(.int 0),(.neg (.int 1))])] [(.tup [(.tup [(.v 3),(.bin .Sub (.v 4) (.int 1))]),(.tup [(.v 3),(.v 4)])]),(.tup [(.tup [(.v 3),(.v 4)]),(.tup [(.bin .Sub (.v 3) (.int 1)),(.v 4)])]),(.tup [(.tup [(.bin .Sub (.v 3) (.int 1)),(.v 4)]),(.tup [(.bin .Sub (.v 3) (.int 1)),(.bin .Sub (.v 4) (.int 1))])]),(.tup [(.tup [(.bin .Sub (.v 3) (.int 1)),(.bin .Sub (.v 4) (.int 1))]),(.tup [(.v 3),(.bin .Sub (.v 4) (.int 1))])])]) (.v 2)),.ite (.and [(.cmp .NotIn (.v 5) (.v 0)),(.cmp .NotIn (.v 6) (.v 0))]) [.ret .none] [],.assign (.v 7) (.ite (.cmp .In (.v 5) (.v 0)) (.cmp .Eq (.bin .Mod (.call (.g 11) [(.v 5)]) (.int 2)) (.int 0)) (.cmp .Eq (.bin .Mod (.call (.g 11) [(.v 6)]) (.int 2)) (.int 1))),.assign (.v 8) (.ite (.v 7) (.int 1) (.neg (.int 1))),.ret (.ite (.and [(.cmp .In (.v 5) (.v 0)),(.cmp .Eq (.sub (.v 0) (.v 5)) (.v 6))]) (.bin .Mult (.neg (.int 3)) (.v 8)) (.v 8))]⟩
noncomputable def c_lnumbers:Aq:=⟨[91018018189733985137666135094806080181247385265940457324640,91802655906655892987069244177394895520651782130346485612640,14278380407590158710755182503339933259032444938476215764378408524097521681295658400122009378494949097568,358890992684198351242246773512480881086083756502504165928775550727356512,189233104125027351079044284948292633439235375036323580149648851040,21765535650688745529293003453417576092175171680,90233375608933022600596502592366504807846208770953298575456,1548065105748371235835565186513595288627984830138641075998525973848831355894661906528],1,[.assign (.v 1) (.sub (.sorted (.call (.g 5) [(.v 0)]) (.g 89)) (.int 0)),.assign (.v 2) (.mu 4 (.dict [(.v 1)] [(.int 0)])),.assign (.v 3) (.mu 5 (.list [(.v 1)])),.while_ (.cmp .NotEq (.v 3) (.list [])) [.assign (.v 4) (.meth (.v 3) 1 []),.for_ (.v 5) (.list [(.tup [(.int 1),(.int 0)]),(.tup [(.int 0),(.int 1)]),(.tup [(.neg (.int 1)),(.int 0)]),(.tup [(.int 0),(.neg (.int 1))])]) [.assign (.v 6) (.tup [(.bin .Add (.sub (.v 4) (.int 0)) (.sub (.v 5) (.int 0))),(.bin .Add (.sub (.v 4) (.int 1)) (.sub (.v 5) (.int 1)))]),.assign (.v 7) (.call (.g 104) [(.v 0),(.v 4),(.v 5)]),.ite (.and [(.cmp .IsNot (.v 7) .none),(.cmp .NotIn (.v 6) (.v 2))]) [.setitem (.v 2) (.v 6) (.bin .Add (.sub (.v 2) (.v 4)) (.v 7)),.expr (.meth (.v 3) 0 [(.v 6)])] []]],.ret (.v 2)]⟩
noncomputable def Lz:Aq:=⟨[79248450939308422951359488504115116927624233569666205745248,18197418120334909699774667083190765414510493792,189233104125027351079044284948292633439235375036323580149648851040],2,[.ite (.or [(.not (.call (.g 1) [(.v 0),(.g 7)])),(.cmp .NotEq (.call (.g 0) [(.v 0)]) (.call (.g 0) [(.v 1)]))]) [.ret (.bool false)] [],.for_ (.v 2) (.v 1) [.ite (.or [(.cmp .NotIn (.v 2) (.v 0)),(.call (.g 1) [(.sub (.v 0) (.v 2)),(.g 3)]),(.cmp .NotEq (.sub (.v 0) (.v 2)) (.sub (.v 1) (.v 2)))]) [.ret (.bool false)] []],.ret (.bool true)]⟩
noncomputable def c_law4:Aq:=⟨[192524121870682778597944489011036038917448218529394060437475033184,43400774030903411559313583009360306713791419551580256,91018018189733985137666135094806080181247385265940457324640,90233379350378463008758525809770352769097190552470883926112,18197418120334909699774667083190765414510493792,87094824741242179901205066477003389167290560711616567967840,6808462337298468928697196246786061046559072708710670994743814830514286300871838589157969722605664,79248450939308422951359488504115116927624233569666205745248,43774917201217540882457574319925670076061253009145952,90233375608933022600596502592366504807846208770953298575456,87094826237816110002686160146039495392542835523475587727456],1,[.assign (.tup [(.v 1),(.v 2)]) (.call (.g 88) [(.v 0)]),.assign (.v 2) (.call (.g 87) [(.v 2),(.call (.g 72) [(.v 0),(.int 2)]),(.bin .Mod (.call (.g 72) [(.v 0),(.int 3)]) (.int 61))]),.assign (.v 3) (.call (.g 29) [(.mu 8 (.call (.g 5) [(.v 1)]))]),.assign (.v 4) (.call (.g 105) [(.v 2)]),.assign (.v 5) (.call (.g 92) [(.v 2),(.call (.g 72) [(.v 0),(.int 4)])]),.assign (.v 6) (.mu 4 (.call (.g 5) [(.v 5)])),.assign (.v 7) (.call (.g 48) [(.v 3),(.v 6)]),.ite (.or [(.not (.call (.g 106) [(.v 7),(.v 4)])),(.cmp .NotEq (.v 6) (.v 5))]) [.ret (.bool false)] [],.assign (.v 8) (.call (.g 7) [(.v 7)]),.assign (.v 9) (.call (.g 87) [(.v 2),(.call (.g 72) [(.v 0),(.int 5)]),(.int 9)]),.assign (.v 10) (.mu 5 (.call (.g 48) [(.v 3),(.mu 6 (.call (.g 90) [(.v 9)]))])),.ite (.or [(.not (.call (.g 106) [(.v 10),(.call (.g 105) [(.v 9)])])),(.cmp .NotEq (.v 7) (.v 8))]) [.ret (.bool false)] [],.expr (.meth (.v 10) 3 []),.expr (.meth (.v 6) 3 []),.expr (.meth (.v 6) 4 [(.call (.g 90) [(.v 9)])]),.ite (.not (.call (.g 106) [(.call (.g 48) [(.v 3),(.v 6)]),(.call (.g 105) [(.v 9)])])) [.ret (.bool false)] [],.ret (.and [(.call (.g 106) [(.call (.g 48) [(.v 3),(.mu 7 (.call (.g 5) [(.v 5)]))]),(.v 4)]),(.cmp .Eq (.v 7) (.v 8))])]⟩
noncomputable def fD(f:Af->AV)(l:List Af):List (Af×AV):=l.map fun p=>(p,f p)
theorem G4(f:Af->AV)(l:List Af)(k:Af):Bq (fD f l) k=if k∈l then some (f k) else aa:=by
 induction l with
 | nil=>rfl
 | cons x r ih =>
  show (((x,f x)::fD f r).find? fun z=>decide (z.1=k)).map (·.2)=_
  by_cases e:x=k
  ·clear ih;subst e
   rw [List.find?_cons_of_pos (p:=fun z:Af×AV=>decide (z.1=x)) (decide_eq_true rfl),if_pos (.head _)];rfl
  ·rw [List.find?_cons_of_neg (p:=fun z:Af×AV=>decide (z.1=k)) (fun z=>e (of_decide_eq_true z))]
   refine Eq.trans ih ?_
   by_cases h:k∈r
   ·rw [if_pos h,if_pos (.tail _ h)]
   ·rw [if_neg h,if_neg fun z=>(aD.mp z).elim (fun w=>e w.symm) h]
theorem Ey(f:Af->AV)(l:List Af)(k:Af):(Bq (fD f l) k).isSome=decide (k∈l):=by
 rw [G4]
 by_cases h:k∈l
 ·rw [if_pos h,decide_eq_true h];rfl
 ·rw [if_neg h,decide_eq_false h];rfl
theorem FK{f:Af->AV}{l:List Af}{k:Af}(h:k∈l):(Bq (fD f l) k).isSome=true:=(Ey f l k).trans (decide_eq_true h)
theorem DD{f:Af->AV}{l:List Af}{k:Af}(h:k∉l):(Bq (fD f l) k).isSome=false:=(Ey f l k).trans (decide_eq_false h)
theorem Cs{f:Af->AV}{l:List Af}{k:Af}(h:k∈l):Bq (fD f l) k=some (f k):=(G4 f l k).trans (if_pos h)
theorem CJ{f:Af->AV}{l:List Af}{k:Af}{x:AV}(h:k∉l)(e:x=f k):Bo (fD f l) k x=fD f (l++[k]):=by
 unfold Bo;rw [Ey,decide_eq_false h,if_neg aH,e];unfold fD;rw [aP];rfl
theorem HZ{f:Af->AV}{l:List Af}{k:Af}{x:AV}(h:k∈l):Bo (fD f l) k x=fD (fun j=>if j=k then x else f j) l:=by
 unfold Bo;rw [Ey,decide_eq_true h,if_pos rfl];unfold fD;rw [bc];refine cQ fun j Z=>?_;show (if j=k then (k,x) else (j,f j))=(j,if j=k then x else f j)
 by_cases e:j=k
 ·rw [if_pos e,if_pos e,e]
 ·rw [if_neg e,if_neg e]
theorem Bj(f:Af->AV)(l:List Af):(fD f l).length=l.length:=aj _
theorem fD_keys(f:Af->AV)(l:List Af):(fD f l).map (·.1)=l:=by
 unfold fD;rw [bc];exact iD l
theorem HV{f g:Af->AV}{l:List Af}(h:∀k∈l,f k=g k):fD f l=fD g l:=cQ fun k hk=>bH rfl (h k hk)
noncomputable def spm(m:Sp->Sp)(k:Af):AV:=sp (m k)
theorem Kv{s:List Sp}{k:Sp}(h:s.Nodup):(HF s k).Nodup:=by
 unfold HF
 by_cases q:k∈s
 ·rw [if_pos q];exact h
 ·rw [if_neg q];exact En h q
theorem FY{f:Af->AV}{l:List Af}{k:Af}{x:AV}(e:x=f k):Bo (fD f l) k x=fD f (HF l k):=by
 unfold HF
 by_cases q:k∈l
 ·rw [if_pos q,HZ q]
  exact HV fun j Z=>by
   by_cases z:j=k
   ·rw [if_pos z,e,z]
   ·rw [if_neg z]
 ·rw [if_neg q,CJ q e]
end
section
structure Lyd(P Ks:List Sp)(m:Sp->Sp)(h:Sp->Int):Prop where
 nd:Ks.Nodup
 mem:∀k,k∈Ks↔k∈P
 mt:Mt P m
 ht:HT P m h
noncomputable def Jg(r:List Bool):List Int:=(ivs 0 r.length).filter fun x=>r.getD (x - 0).toNat false
theorem xsOf_mem{r:List Bool}{x:Int}:x∈Jg r↔bit r x:=by
 have h:=rowC_mem (y:=0) (k:=(x,0)) (r:=r) (x:=0);rw [Cn] at h;rw [iz] at h;refine Iff.trans ⟨fun q=>cD q,fun q=>?_⟩ (h.trans (and_iff_right rfl));refine X1pp (aZ.mp q) fun z hz e=>?_
 cases e;exact hz
noncomputable def Par(G:Gr)(β:Int->Int):Prop:=∀(y:Nat) r,G[y]?=some r->Hr (β y) (Jg r)=true
theorem Par.cl{G:Gr}{β:Int->Int}(p:Par G β):∀k∈Ae G,flM β k∈Ae G:=fun k hk=>by
 refine Ao (cellsOf_mem.mp hk) fun h0 Z0=>?_;refine X1pp Z0 fun r hr hb=>?_
 have:=JY (p _ r hr) k.1 (xsOf_mem.mpr hb)
 rw [au h0] at this;unfold flM
 by_cases q:(k.1 - β k.2) % 2=0
 ·rw [if_pos q] at this ⊢
  exact cellsOf_mem.mpr ⟨h0,r,hr,xsOf_mem.mp this⟩
 ·rw [if_neg q] at this ⊢
  exact cellsOf_mem.mpr ⟨h0,r,hr,xsOf_mem.mp this⟩
structure Lay(G:Gr)(w:Nat):Prop where
 f:Flo G w
 ft:Flo (trG G w) G.length
 p:∃β,Par G β
theorem Ip{w:Nat}{p:Nat×Nat}(h:p.1+p.2<=w):Jg (AD w p)=ivs p.1 p.2:=by
 have up:∀{l:List Int},l.Pairwise (·<·)->l.Nodup:=fun h=>h.imp fun z e=>by omega
 have u1:(Jg (AD w p)).Pairwise (·<·):=ivs_up.filter _;have u2:(ivs p.1 p.2).Pairwise (·<·):=ivs_up;refine List.Perm.eq_of_pairwise (le:=(·<·)) (fun a b Z Z h1 h2=>by exact ah (lin [] [a,b] (.f V0 V1) [.g V0 V1] rfl h1) (lin [] [b,a] (.f V0 V1) [.g V0 V1] rfl h2)) u1 u2 ((List.perm_ext_iff_of_nodup (up u1) (up u2)).mpr fun x=>?_)
 rw [xsOf_mem,D6 h,ivs_mem]
theorem Iw{w:Nat}{L:List (Nat×Nat)}(st:Strips true w L):Par (L.map (AD w)) fun y=>((L[y.toNat]?).getD (0,0)).1:=fun y r hr=>by
 rw [aW] at hr;refine X1pr r (aY.mp hr) fun p hp=>?_;have ok:=st.ok p (af hp);rw [Ip ok.2.1];show Hr (((L[(y:Int).toNat]?).getD (0,0)).1:Nat) (ivs p.1 p.2)=true;rw [bZ,hp];show Hr p.1 (ivs p.1 p.2)=true;obtain ⟨n,e⟩:∃n,p.2=2 * n:=⟨p.2 / 2,by have:=ok.2.2 rfl;exact aw (lin [p.snd % 2,p.snd / 2,p.snd] [] (.b V2 (.M 2 V1)) [.d V0 K0,.D (-1) (.A (.M 2 V1) V0) V2] rfl this (Nat.div_add_mod p.snd 2)) (lin [p.snd / 2,p.snd % 2,p.snd] [] (.b (.M 2 V0) V2) [.d (.A (.M 2 V0) V1) V2] rfl (Nat.div_add_mod p.snd 2))⟩
 rw [e];exact par_ivs _ n
theorem Ix{w:Nat}{L:List (Nat×Nat)}(w2:2<=w)(w6:w<=6)(h1:1<=L.length)(h6:L.length<=6)(st:Strips true w L):Lay (L.map (AD w)) w:=by
 have f:=Iy w2 w6 h1 h6 st;refine ⟨f,tr_flo f.g ?_ (Cv st) fun k hk=>?_,_,Iw st⟩
 ·refine X2pp f.ne fun a P' e Z=>?_
  rw [e];exact List.cons_ne_nil _ _
 ·rw [aj] at hk ⊢
  exact El st hk
noncomputable def layB(G:Gr)(w:Nat):Bool:=floB G w && (floB (trG G w) G.length && G.all fun r=>Hr 0 (Jg r))
theorem Lay.ofB{G:Gr}{w:Nat}(h:layB G w=true):Lay G w:=by
 unfold layB at h;refine Ao (aU.mp h) fun h1 h=>?_;refine Ao (aU.mp h) fun h2 h3=>?_;exact ⟨Flo.ofB h1,Flo.ofB h2,fun Z=>0,fun y r hr=>cA.mp h3 r (af hr)⟩
noncomputable def fixE:Gr:=gOf ["##..##", "##..##", "######"]
noncomputable def fixF:Gr:=gOf ["######", "....##", "##..##", "##..##", "######"]
noncomputable def fixG:Gr:=gOf ["##..##", "######", "##..##", "##..##"]
noncomputable def fixH:Gr:=gOf ["##..##", "##..##", "######", "##..##", "##..##"]
theorem fixE_ok:Lay fixE 6:=Lay.ofB (by decide +kernel)
theorem fixF_ok:Lay fixF 6:=Lay.ofB (by decide +kernel)
theorem fixG_ok:Lay fixG 6:=Lay.ofB (by decide +kernel)
theorem fixH_ok:Lay fixH 6:=Lay.ofB (by decide +kernel)
theorem fixE_lit:(["##..##", "##..##", "######"].map fun s=>AV.str (bX s))=AC fixE:=Dv (by decide +kernel)
theorem fixF_lit:(["######", "....##", "##..##", "##..##", "######"].map fun s=>AV.str (bX s))=AC fixF:=Dv (by decide +kernel)
theorem fixG_lit:(["##..##", "######", "##..##", "##..##"].map fun s=>AV.str (bX s))=AC fixG:=Dv (by decide +kernel)
theorem fixH_lit:(["##..##", "##..##", "######", "##..##", "##..##"].map fun s=>AV.str (bX s))=AC fixH:=Dv (by decide +kernel)
theorem rng2:∀{h:Nat},h<=3->cg 0 ((2 * h:Nat):Int) 2=true/\AU 0 2 (A9 0 ((2 * h:Nat):Int) 2)=(bt h).map fun i:Nat=>AV.int (2 * (i:Int))
 | 0,_=>⟨by decide +kernel,rfl⟩
 | 1,_=>⟨by decide +kernel,rfl⟩
 | 2,_=>⟨by decide +kernel,rfl⟩
 | 3,_=>⟨by decide +kernel,rfl⟩
 | h+4,q=>by omega
noncomputable def tw:Bool->Sp->Sp
 | true,k=>sw k
 | false,k=>k
theorem Iq(b:Bool)(k:Sp):tw b (tw b k)=k:=by cases b<;>rfl
noncomputable def tm(b:Bool)(β:Int->Int)(k:Sp):Sp:=tw b (flM β (tw b k))
theorem tm_one{b:Bool}{β:Int->Int}{u y:Int}(h:(u - β y) % 2=0):tm b β (tw b (u,y))=tw b (u+1,y):=by
 unfold tm flM;rw [Iq];exact congrArg (tw b) (if_pos h)
theorem tm_two{b:Bool}{β:Int->Int}{u y:Int}(h:(u - β y) % 2=0):tm b β (tw b (u+1,y))=tw b (u,y):=by
 unfold tm flM;rw [Iq];exact congrArg (tw b) ((if_neg (by dsimp only;omega)).trans (bH (bI ..) rfl))
inductive LN(avs:List AV)(V:LS)(K:KR):Prop
 | mk (G:Gr)(w:_)(b:_)(β:Int->Int)(c0:avs=[.list (AC G),.bool b])(c1:V=[])(c2:(Grid G w/\Par G β))(c3:∀Ks,Ks.Nodup->(∀k,k∈Ks↔tw b k∈Ae G)->K ⟨[.dict (fD (spm (tm b β)) Ks)],.new 0⟩ []):LN avs V K
noncomputable def fPairs:FS:=specF fun avs V K Z=>LN avs V K
noncomputable def pfM(G:Gr)(b:Bool)(f:Addr)(x3 x4 x5 x6 x7 x8:Option AV):M:=[some (.list (AC G)),some (.bool b),some (.loc f 4),x3,x4,x5,x6,x7,x8]
noncomputable def pfS(f:Addr)(D:List (Af×AV)):LS:=[.no,.no,.no,.no,.at f (.dict D)]
inductive PfJ(G:Gr)(b:Bool)(β:Int->Int)(f:Addr)(d r:List Int):M->LS->Prop
 | mk (x3 x4 x5 x6 x7 x8:Option AV)(Ks:List Sp)(D:List (Af×AV))(hd:d++r=ivs 0 G.length)(nd:Ks.Nodup)(hm:∀k,k∈Ks↔tw b k∈Ae (G.take d.length))(eD:D=fD (spm (tm b β)) Ks):PfJ G b β f d r (pfM G b f x3 x4 x5 x6 x7 x8) (pfS f D)
inductive PfI(G:Gr)(b:Bool)(β:Int->Int)(f:Addr)(y:Int)(xs:List Int)(h:Nat)(Q:List Sp)(d r:List Nat):M->LS->Prop
 | mk (x5 x6 x7 x8:Option AV)(Ks:List Sp)(D:List (Af×AV))(hd:d++r=bt h)(nd:Ks.Nodup)(hm:∀k,k∈Ks↔tw b k∈Q\/∃x∈xs.take (2 * d.length),tw b k=(x,y))(eD:D=fD (spm (tm b β)) Ks):PfI G b β f y xs h Q d r (pfM G b f (some (.int y)) (some (.list (xs.map .int))) x5 x6 x7 x8) (pfS f D)
theorem range_at{d r:List Nat}{i h:Nat}(e:d++i::r=bt h):i=d.length/\i<h:=by
 have:=congrArg (·[d.length]?) e
 simp only [bf (ay _),fj,eX] at this;obtain ⟨h1,h2⟩:=dA.mp this.symm;rw [gN] at h1;rw [List.getElem_range] at h2;exact ⟨aw (lin [d.length,i] [] (.b V1 V0) [.D (-1) V0 V1] rfl h2) (lin [d.length,i] [] (.b V0 V1) [.d V0 V1] rfl h2),lin [d.length,h,i] [] (.c V2 V1) [.c V0 V1,.D (-1) V0 V2] rfl h1 h2⟩
theorem pf_in{G:Gr}{b:Bool}{β:Int->Int}{f:Addr}{y:Int}{xs:List Int}{h i:Nat}{Q:List Sp}{d r:List Nat}{m:M}{V:LS}{X:XL}{KK:KS}(hh:h<=3)(hx:xs.length=2 * h)(pa:Hr (β y) xs=true)(hQ:Q.length<=36)(j:PfI G b β f y xs h Q d (i::r) m V)(C:M->LS->Prop)(hC:∀As Ab,PfI G b β f y xs h Q (d++[i]) r As Ab->C As Ab) :
  patW true (.v 6) (.int (2 * (i:Int))) m (fun Am=>wpSs ⟨true,[],[],[],[]⟩ [.assign (.tup [(.v 7),(.v 8)]) (.tup [(.tup [(.sub (.v 4) (.v 6)),(.v 3)]),(.tup [(.sub (.v 4) (.bin .Add (.v 6) (.int 1))),(.v 3)])]),.ite (.v 1) [.assign (.tup [(.v 7),(.v 8)]) (.tup [(.tup [(.v 3),(.sub (.v 4) (.v 6))]),(.tup [(.v 3),(.sub (.v 4) (.bin .Add (.v 6) (.int 1)))])])] [],.setitem (.v 2) (.v 7) (.v 8),.setitem (.v 2) (.v 8) (.v 7)] X Am V (Ex aa V C KK)):=by
 cases j with
 | mk x5 x6 x7 x8 Ks D hd nd hm eD =>
  obtain ⟨rfl,hi⟩:=range_at hd;have T:(d++[d.length])++r=bt h:=by rw [aI];exact hd
  obtain ⟨u,e1,e2,e3,e4⟩:=par_at (i:=d.length) pa (by exact lin [xs.length,h,d.length] [] (.c (.M 2 V2) V0) [.D (-1) V0 (.M 2 V1),.C 2 V2 V1] rfl hx hi)
  have b1:(0:Int)<=2 * (d.length:Int)/\2 * (d.length:Int)<1000000:=by exact ⟨lin [d.length] [] (.f K0 (.M 2 (.c V0))) [] rfl,lin [h,d.length] [] (.g (.M 2 (.c V1)) Az) [.B 2 V0 K3,.C 2 V1 V0] rfl hh hi⟩
  have b2:(0:Int)<=2 * (d.length:Int)+1/\2 * (d.length:Int)+1<1000000:=by exact ⟨lin [d.length] [] (.f K0 (.A (.M 2 (.c V0)) K1)) [] rfl,lin [h,d.length] [] (.g (.A (.M 2 (.c V1)) K1) Az) [.B 2 V0 K3,.C 2 V1 V0] rfl hh hi⟩
  have a1:(xs.map AV.int)[(2 * (d.length:Int)).toNat]?=some (.int u):=by
   rw [show (2 * (d.length:Int)).toNat=2 * d.length by omega,aW,e1];rfl
  have a2:(xs.map AV.int)[(2 * (d.length:Int)+1).toNat]?=some (.int (u+1)):=by
   rw [show (2 * (d.length:Int)+1).toNat=2 * d.length+1 by omega,aW,e2];rfl
  have lK:Ks.length<=100:=by
   have:=sub_length (k:=Q.map (tw b)++(xs.take (2 * d.length)).map fun x=>tw b (x,y)) nd fun k hk=>aN.mpr (((hm k).mp hk).imp (fun z=>aZ.mpr ⟨_,z,Iq b k⟩) fun ⟨x,hx,e⟩=>aZ.mpr ⟨x,hx,by rw [<- e,Iq]⟩)
   rw [ao,aj,aj,fH] at this;exact lin [h,Q.length,d.length,Ks.length,min (2 * d.length) xs.length] [] (.b V3 Eb) [.B 2 V0 K3,.b V1 K36,.C 2 V2 V0,.b V3 (.A V1 V4),.b V4 (.M 2 V2)] rfl hh hQ hi this (gd (2 * d.length) xs.length)
  have s1:Bo D (tw b (u,y)) (sp (tw b (u+1,y)))=fD (spm (tm b β)) (HF Ks (tw b (u,y))):=by
   rw [eD];exact FY (by unfold spm;rw [tm_one e3])
  have s2:Bo (Bo D (tw b (u,y)) (sp (tw b (u+1,y)))) (tw b (u+1,y)) (sp (tw b (u,y)))=fD (spm (tm b β)) (HF (HF Ks (tw b (u,y))) (tw b (u+1,y))):=by
   rw [s1];exact FY (by unfold spm;rw [tm_two e3])
  have l1:D.length<=big:=Ar (by rw [eD,Bj];exact lin [Ks.length] [] (.b V0 AE) [.b V0 Eb] rfl lK)
  have l2:(Bo D (tw b (u,y)) (sp (tw b (u+1,y)))).length<=big:=Ar (by
   rw [s1,Bj]
   have:(HF Ks (tw b (u,y))).length<=Ks.length+1:=by
    unfold HF;split
    ·exact fO _
    ·rw [ao];exact ay _
   exact lin [Ks.length,(HF Ks (tw b (u,y))).length] [] (.b V1 AE) [.b V0 Eb,.b V1 (.A V0 K1)] rfl lK this)
  have U:∀k,k∈HF (HF Ks (tw b (u,y))) (tw b (u+1,y))↔tw b k∈Q\/∃x∈xs.take (2 * (d++[d.length]).length),tw b k=(x,y):=fun k=>by
   have tk:∀z:Sp,k=tw b z↔tw b k=z:=fun z=>⟨fun e=>by rw [e,Iq],fun e=>by rw [<- e,Iq]⟩
   rw [HE,HE,hm k,tk,tk,ao,bW,e4]
   constructor
   ·rintro (((h | ⟨x,hx,e⟩) | e) | e)
    ·exact .inl h
    ·exact .inr ⟨x,aX _ hx,e⟩
    ·exact .inr ⟨u,aT _ (.head _),e⟩
    ·exact .inr ⟨u+1,aT _ (.tail _ (.head _)),e⟩
   ·rintro (h | ⟨x,hx,e⟩)
    ·exact .inl (.inl (.inl h))
    ·rcases aN.mp hx with hx | hx
     ·exact .inl (.inl (.inr ⟨x,hx,e⟩))
     ·cases hx with
      | head=>exact .inl (.inr e)
      | tail _ hx =>
       cases hx with
       | head=>exact .inr e
       | tail _ hx=>cases hx
  have go:∀x,C (pfM G b f (some (.int y)) (some (.list (xs.map .int))) x5 x (some (sp (tw b (u,y)))) (some (sp (tw b (u+1,y))))) (pfS f (Bo (Bo D (tw b (u,y)) (sp (tw b (u+1,y)))) (tw b (u+1,y)) (sp (tw b (u,y))))):=fun x=>hC _ _ (.mk _ _ _ _ _ _ T (Kv (Kv nd)) U s2);refine ⟨b1,_,a1,b2,_,a2,?_⟩
  cases b with
  | false=>exact ⟨rfl,l1,rfl,l2,go _⟩
  | true=>exact ⟨b1,_,a1,b2,_,a2,rfl,l1,rfl,l2,go _⟩
theorem Ir{G:Gr}{d:Nat}{u:List Bool}(h:G[d]?=some u):Ae (G.take (d+1))=Ae (G.take d)++(Jg u).map fun x=>(x,(d:Int)):=by
 have hl:=(dA.mp h).1;rw [List.take_add_one,h];show Ae (G.take d++[u])=_;unfold Ae;rw [Cr,Cn,fH,Nat.min_eq_left (cK hl),cZ]
 rfl
theorem pairs_ok:FnOk ⟨true,[],[],[],[]⟩ CU .new 7 5 fPairs:=by
 refine .specF fun avs V K X h=>?_;obtain ⟨G,w,b,β,rfl,rfl,⟨g,pa⟩,hK⟩:=h;have h6:=g.h6;have w6:=g.w6;refine ⟨rfl,fun f=>⟨Ar (CH g),Dz (by rw [CG];exact h6),?_⟩⟩
 refine AQ (g:=.int) (rng_grid G) (PfJ G b β f) (fun d m τ j=>?_) (fun d y r m τ j C hC=>?_) (d:=[]) (.mk _ _ _ _ _ _ [] [] rfl .nil (fun k=>⟨fun z=>(by cases z),fun z=>(by cases z)⟩) rfl)
 ·cases j with
  | mk x3 x4 x5 x6 x7 x8 Ks D hd nd hm eD =>
   rw [aM] at hd;rw [hd,AA,il] at hm;subst eD;exact ⟨rfl,hK Ks nd hm⟩
 ·cases j with
  | mk x3 x4 x5 x6 x7 x8 Ks D hd nd hm eD =>
   refine Ao (ivs_at hd) fun hy T=>?_;obtain rfl:y=d.length:=by exact ah (lin [d.length] [y] (.f V0 (.c V0)) [.h V0 (.A K0 (.c V0))] rfl hy) (lin [d.length] [y] (.f (.c V0) V0) [.H (-1) V0 (.A K0 (.c V0))] rfl hy)
   have er:G[d.length]?=some G[d.length]:=aE T;generalize G[d.length]=row at er;have lr:=g.len _ (af er);have ea:(AC G)[(d.length:Int).toNat]?=some (.str (B5 row)):=by rw [bZ];exact KL er
   have bd:(0:Int)<=d.length/\(d.length:Int)<1000000:=by exact ⟨lin [d.length] [] (.f K0 (.c V0)) [] rfl,lin [bR G,d.length] [] (.g (.c V1) Az) [.b V0 K6,.c V1 V0] rfl h6 T⟩
   refine ⟨bd,_,ea,Ar (by rw [AY];exact lin [w,row.length] [] (.b V1 AE) [.b V0 K6,.d V1 V0] rfl w6 lr),Dz (by rw [AY];exact aB (ew lr) w6),?_⟩
   refine ⟨Ar (by rw [EZ,aj,AA,lr];exact aB w6 (by decide)),?_⟩
   refine F2 (g:=.int) (f:=.int) (P:=fun x=>row.getD (x - 0).toNat false) (EZ _) (fun x hx ys C2 h1 h2=>?_) ?_
   ·rw [ivs_mem] at hx
    refine ⟨bd,_,ea,⟨by exact lin [] [x] (.f K0 V0) [.f K0 V0] rfl hx.1,by exact lin [w,row.length] [x] (.g V0 Az) [.b V0 K6,.d V1 V0,.g V0 (.A K0 (.c V1))] rfl w6 lr hx.2⟩,_,row_at (by exact lin [row.length,x.toNat] [x] (.c V1 V0) [.g V0 (.A K0 (.c V0)),.h (.c V1) V0] rfl hx.2 (au (lin [] [x] (.f K0 V0) [.f K0 V0] rfl hx.1))),_,KD _,?_⟩
    rw [iz] at h1 h2;exact ifB h1 h2
   ·have pr:=pa _ _ er
    refine X1p (Hq pr) fun h hh=>?_;have lx:(Jg row).length<=6:=by
     have:=d5 (fun x=>row.getD (x - 0).toNat false) (ivs 0 row.length)
     rw [AA] at this;exact aB this (by exact lin [w,row.length] [] (.b V1 K6) [.b V0 K6,.d V1 V0] rfl w6 lr)
    have h3:h<=3:=by exact lin [(Jg row).length,h] [] (.B 2 V1 K3) [.D (-1) V0 (.M 2 V1),.b V0 K6] rfl hh lx
    have el:((Jg row).map AV.int).length=2 * h:=by rw [aj,hh]
    refine Ao (rng2 h3) fun s2 a2=>?_;have hQ:(Ae (G.take d.length)).length<=36:=by
     have:=B8 (w:=w) (G:=G.take d.length) (y:=0) fun q hq=>g.len q (List.mem_of_mem_take hq)
     have h3:(G.take d.length).length * w<=6 * 6:=dQ (by rw [fH];exact lin [bR G,d.length,min d.length (bR G)] [] (.b V2 K6) [.b V0 K6,.c V1 V0,.b V2 V1] rfl h6 T (gd d.length (bR G))) w6
     exact aB this h3
    refine ⟨Ar (show ((Jg row).map AV.int).length<=1000 by exact lin [h,(List.map AV.int (Jg row)).length] [] (.b V1 AE) [.B 2 V0 K3,.d V1 (.M 2 V0)] rfl h3 el),by decide,by decide,(congrArg (fun n:Nat=>cg 0 n 2) el).trans s2,?_⟩
    refine AQ (g:=fun i:Nat=>AV.int (2 * (i:Int))) ((congrArg (fun n:Nat=>AU 0 2 (A9 0 n 2)) el).trans a2) (PfI G b β f d.length (Jg row) h (Ae (G.take d.length))) (fun d' m τ j=>?_) (fun d' i r m τ j C hC=>pf_in h3 hh pr hQ j C hC) (d:=[]) (.mk _ _ _ _ Ks D rfl nd (fun k=>(hm k).trans ⟨.inl,fun z=>z.elim id fun ⟨x,z,_⟩=>by cases z⟩) eD)
    cases j with
    | mk x5 x6 x7 x8 Ks D U Y O u =>
     refine hC _ _ (.mk _ _ _ _ _ _ Ks D (by rw [aI];exact hd) Y (fun k=>?_) u)
     rw [aM] at U;rw [O k,U,gN,<- hh,il,ao,bW,Ir er,aN,aZ];exact or_congr Iff.rfl ⟨fun ⟨x,h1,h2⟩=>⟨x,h1,h2.symm⟩,fun ⟨x,h1,h2⟩=>⟨x,h1,h2.symm⟩⟩
inductive Gi(avs:List AV)(V:LS)(K:KR):Prop
 | mk (l:List Int)(c0:avs=[.nums l])(c1:V=[])(c2:l.length<=1000)(c3:∀G w Ks m h,Flo G w->Lyd (Ae G) Ks m h->K ⟨[],.val (.tup [.list (AC G),.dict (fD (spm m) Ks)])⟩ []):Gi avs V K
noncomputable def HU:FS:=specF fun avs V K Z=>Gi avs V K
noncomputable abbrev tFb:Tab:=⟨true,[],[(72,fAt),(75,K9),(85,fPairs),(74,KY)],[],[]⟩
theorem DT{l:List Int}{x:Int}{G:Gr}{w:Nat}{K:KR}{X:XL}(h:Lay G w)(hK:∀G w Ks m h,Flo G w->Lyd (Ae G) Ks m h->K ⟨[],.val (.tup [.list (AC G),.dict (fD (spm m) Ks)])⟩ []) :
  wpSs tFb (c_lfloor_by.body.drop 3) X [some (.nums l),some (.int x),some (.list (AC G)),aa,aa] [] (fun fl Z τ=>retW .val 0 (flV fl) τ K):=by
 refine X1p h.p fun β pa=>?_;have g:=h.f.g;have mt:=fl_mt pa.cl;have ht:=fl_ht (b:=β) (fun k hk=>(g.in hk).2.2.1) pa.cl;refine ⟨G,w,_,β,rfl,rfl,⟨g,pa⟩,fun Ks nd hm=>?_⟩;generalize ((x.fdiv 30).fmod 2 == 1)=b at hm ⊢
 cases b with
 | true=>exact ⟨G,w,rfl,rfl,g,hK _ _ Ks _ _ h.ft ⟨nd,fun k=>(hm k).trans (De g).symm,mt.sw fun k=>De g,ht.sw mt fun k=>De g⟩⟩
 | false=>exact hK _ _ Ks _ _ h.f ⟨nd,hm,mt,ht⟩
theorem I3:FnOk tFb c_lfloor_by .val 4 0 HU:=by
 refine .specF fun u V K X h=>?_;obtain ⟨l,rfl,rfl,hl,hK⟩:=h;refine ⟨rfl,l,0,rfl,hl,rfl,l,1,rfl,hl,rfl,_,_,_,rfl,rfl,fun w L w2 w6 h1 h6 st=>?_⟩;refine ifB (fun Z=>?_) fun Z=>DT (Ix w2 w6 h1 h6 st) hK;have h4:=Be (a:=(l.getD 0 0).fdiv 7) (b:=4) (by decide)
 refine ⟨⟨h4.1,Int.lt_trans h4.2 (by decide)⟩,?_⟩
 rcases four h4 with e | e | e | e<;>rw [e]
 ·exact ⟨_,rfl,by have:=DT (l:=l) (x:=l.getD 0 0) (X:=fun e τ=>X e (io ([]:LS).length τ)) fixE_ok hK;rw [<- fixE_lit] at this;exact this⟩
 ·exact ⟨_,rfl,by have:=DT (l:=l) (x:=l.getD 0 0) (X:=fun e τ=>X e (io ([]:LS).length τ)) fixF_ok hK;rw [<- fixF_lit] at this;exact this⟩
 ·exact ⟨_,rfl,by have:=DT (l:=l) (x:=l.getD 0 0) (X:=fun e τ=>X e (io ([]:LS).length τ)) fixG_ok hK;rw [<- fixG_lit] at this;exact this⟩
 ·exact ⟨_,rfl,by have:=DT (l:=l) (x:=l.getD 0 0) (X:=fun e τ=>X e (io ([]:LS).length τ)) fixH_ok hK;rw [<- fixH_lit] at this;exact this⟩
end
section
noncomputable def up(μ:Sp->Sp)(c:Sp)(g:Sp->Sp)(j:Sp):Sp:=if j=c then μ c else g j
noncomputable def ups(μ:Sp->Sp):List Sp->(Sp->Sp)->Sp->Sp
 | [],g=>g
 | c::l,g=>ups μ l (up μ c g)
theorem ups_in{μ:Sp->Sp}{k:Sp}:∀{l:List Sp}{g:Sp->Sp},k∈l\/g k=μ k->ups μ l g k=μ k
 | [],g,h=>h.elim (fun z=>by cases z) id
 | c::l,g,h=>ups_in (l:=l) (g:=up μ c g) (by
  unfold up
  by_cases e:k=c
  ·rw [if_pos e,e];exact .inr rfl
  ·rw [if_neg e];exact h.imp_left fun z=>(aD.mp z).resolve_left e)
theorem Jm{μ:Sp->Sp}{k:Sp}:∀{l:List Sp}{g:Sp->Sp},k∉l->ups μ l g k=g k
 | [],_,_=>rfl
 | c::l,g,h=>(Jm (l:=l) fun z=>h (.tail _ z)).trans (if_neg fun (e:k=c)=>h (by rw [e];exact .head _))
theorem BS{μ g:Sp->Sp}{Ks:List Sp}{c z:Sp}(h:c∈Ks)(e:μ c=z):Bo (fD (spm g) Ks) c (sp z)=fD (spm (up μ c g)) Ks:=by
 rw [HZ h];refine HV fun j Z=>?_;unfold spm up
 by_cases q:j=c
 ·rw [if_pos q,if_pos q,e]
 ·rw [if_neg q,if_neg q]
theorem fo_mem{x y:Int}{k:Sp}:k∈[(x - 1,y - 1),(x,y - 1),(x - 1,y),(x,y)]↔Fo x y k:=by
 constructor
 ·intro h
  simp only [aD,bn,or_false] at h
  rcases h with rfl | rfl | rfl | rfl
  ·exact ⟨.inl rfl,.inl rfl⟩
  ·exact ⟨.inr rfl,.inl rfl⟩
  ·exact ⟨.inl rfl,.inr rfl⟩
  ·exact ⟨.inr rfl,.inr rfl⟩
 ·obtain ⟨a,b⟩:=k
  intro u;refine Ao u fun h1 h2=>?_;dsimp only at h1 h2
  rcases h1 with rfl | rfl<;>rcases h2 with rfl | rfl
  ·exact .head _
  ·exact .tail _ (.tail _ (.head _))
  ·exact .tail _ (.head _)
  ·exact .tail _ (.tail _ (.tail _ (.head _)))
theorem Hv{x y b:Int}:mir x y false (x - 1,b)=(x,b):=bH (by show 2 * x - 1 - (x - 1)=x;exact ah (lin [] [x] (.f (.S (.S (.M 2 V0) K1) (.S V0 K1)) V0) [] rfl) (lin [] [x] (.f V0 (.S (.S (.M 2 V0) K1) (.S V0 K1))) [] rfl)) rfl
theorem mir_f2{x y b:Int}:mir x y false (x,b)=(x - 1,b):=bH (by show 2 * x - 1 - x=x - 1;exact ah (lin [] [x] (.f (.S (.S (.M 2 V0) K1) V0) (.S V0 K1)) [] rfl) (lin [] [x] (.f (.S V0 K1) (.S (.S (.M 2 V0) K1) V0)) [] rfl)) rfl
theorem Ht{x y a:Int}:mir x y true (a,y - 1)=(a,y):=bH rfl (by show 2 * y - 1 - (y - 1)=y;exact ah (lin [] [y] (.f (.S (.S (.M 2 V0) K1) (.S V0 K1)) V0) [] rfl) (lin [] [y] (.f V0 (.S (.S (.M 2 V0) K1) (.S V0 K1))) [] rfl))
theorem mir_t2{x y a:Int}:mir x y true (a,y)=(a,y - 1):=bH rfl (by show 2 * y - 1 - y=y - 1;exact ah (lin [] [y] (.f (.S (.S (.M 2 V0) K1) V0) (.S V0 K1)) [] rfl) (lin [] [y] (.f (.S V0 K1) (.S (.S (.M 2 V0) K1) V0)) [] rfl))
theorem fo_p{P:List Sp}{m:Sp->Sp}{x y:Int}{v:Bool}{c d c' d':Sp}(M:Mt P m)(hc:c∈P)(ec:m c=c')(hd:d∈P)(ed:m d=d')(zc:mir x y v c=c')(zd:mir x y v d=d')(all:∀k,Fo x y k->k∈[c,c',d,d'])(k:Sp)(f:Fo x y k):k∈P/\m k=mir x y v k:=by
 have one:∀{c c'},c∈P->m c=c'->mir x y v c=c'->c'∈P/\m c'=mir x y v c':=fun {c c'} h e z=>by
  have:=M c h
  rw [e] at this;exact ⟨(nbP_mem.mp this.1).2.2,by rw [this.2,<- z,Kc]⟩
 have:=all k f
 simp only [aD,bn,or_false] at this
 rcases this with rfl | rfl | rfl | rfl
 ·exact ⟨hc,by rw [ec,zc]⟩
 ·exact one hc ec zc
 ·exact ⟨hd,by rw [ed,zd]⟩
 ·exact one hd ed zd
theorem Lyd.turn{P Ks l:List Sp}{m:Sp->Sp}{h:Sp->Int}{x y:Int}{v:Bool}(L:Lyd P Ks m h)(hl:∀k,k∈l↔Fo x y k)(p:∀k,Fo x y k->k∈P/\m k=mir x y v k):Lyd P Ks (ups (mir x y (!v)) l m) (hup x y v h):=by
 have T:Tn P x y v m (ups (mir x y (!v)) l m):=⟨fun k f=>(p k f).1,fun k f=>(p k f).2,fun k f=>ups_in (.inl ((hl k).mpr f)),fun k f=>Jm fun z=>f ((hl k).mp z)⟩;exact ⟨L.nd,L.mem,T.mt L.mt,T.ht L.ht⟩
theorem EqP.sp{a b:Sp}(e:a=b):EqP (Mine.Internal.sp a) (Mine.Internal.sp b) true:=.py ⟨Em a,Em b,rfl,rfl,rfl,rfl,(HW a b).trans (decide_eq_true e)⟩
theorem EqP.nsp{a b:Sp}(e:a≠b):EqP (Mine.Internal.sp a) (Mine.Internal.sp b) false:=.py ⟨Em a,Em b,rfl,rfl,rfl,rfl,(HW a b).trans (decide_eq_false e)⟩
theorem E9{m:Sp->Sp}{Ks:List Sp}{k z:Sp}{V:LS}{K:Bool->Prop}(h:K (decide (k∈Ks/\m k=z))):eqW ((Bq (fD (spm m) Ks) k).getD .none) (sp z) V K:=by
 by_cases q:k∈Ks
 ·rw [Cs q]
  refine ⟨decide (m k=z),.py ⟨Em (m k),Em z,rfl,rfl,?_,?_,HW _ _⟩,?_⟩
  ·rfl
  ·rfl
  ·rwa [show decide (k∈Ks/\m k=z)=decide (m k=z) from decide_eq_decide.mpr (and_iff_right q)] at h
 ·rw [G4,if_neg q]
  refine ⟨false,.py ⟨.none,Em z,rfl,rfl,rfl,rfl,rfl⟩,?_⟩
  rwa [decide_eq_false fun w=>q w.1] at h
inductive QfTurn(avs:List AV)(V:LS)(K:KR):Prop
 | mk (a:_)(k:_)(P:List Sp)(Ks:List Sp)(m:Sp->Sp)(h:Sp->Int)(c0:avs=[.loc a 0,sp k])(c1:V=[.at a (.dict (fD (spm m) Ks))])(c2:(Ks.length<=36/\Lyd P Ks m h))(c3:∀b m' h',Lyd P Ks m' h'->K ⟨[],.val (.bool b)⟩ [.at a (.dict (fD (spm m') Ks))]):QfTurn avs V K
noncomputable def fTurn:FS:=specF fun avs V K Z=>QfTurn avs V K
noncomputable def tuM(a:Addr)(x y:Int)(x8 x9 x10:Option AV):M:=[some (.loc a 0),some (sp (x,y)),some (.int x),some (.int y),some (sp (x - 1,y - 1)),some (sp (x,y - 1)),some (sp (x - 1,y)),some (sp (x,y)),x8,x9,x10]
noncomputable abbrev t0:Tab:=⟨true,[],[],[],[]⟩
theorem turn_ok:FnOk ⟨true,[],[],[],[]⟩ c_lturn .val 9 0 fTurn:=by
 refine .specF fun d V K X h=>?_;obtain ⟨a,⟨x,y⟩,P,Ks,m,h,rfl,rfl,⟨hl,L⟩,hK⟩:=h;have u:∀g,(fD (spm g) Ks).length<=big:=fun g=>Ar (by rw [Bj];exact lin [Ks.length] [] (.b V0 AE) [.b V0 K36] rfl hl)
 have iK:=fun k=>(L.mem k).mpr;have iP:=fun k=>(L.mem k).mp;have no:∀{b},K ⟨[],.val (.bool b)⟩ [.at a (.dict (fD (spm m) Ks))]:=hK _ m h L;have z:∀X:XL,wpSs t0 [.ite (.and [(.cmp .Eq (.meth (.v 0) 6 [(.v 4)]) (.v 6)),(.cmp .Eq (.meth (.v 0) 6 [(.v 5)]) (.v 7))]) [.assign (.v 8) (.list [(.tup [(.v 4),(.v 5)]),(.tup [(.v 6),(.v 7)])])] [.ret (.bool false)]] X (tuM a x y aa aa aa) [.at a (.dict (fD (spm m) Ks))] (kSeq (wpSs t0 (c_lturn.body.drop 3) X) (fun fl Z τ=>retW .val 1 (flV fl) τ K)):=fun X=>by
  refine ⟨rfl,rfl,E9 ?_⟩;refine ifB (fun e1=>?_) fun Z=>no;refine ⟨rfl,rfl,E9 ?_⟩;refine ifB (fun e2=>?_) fun Z=>no;refine Ao (of_decide_eq_true e1) fun c1 c2=>?_;refine Ao (of_decide_eq_true e2) fun d1 d2=>?_;have p:=fo_p (x:=x) (y:=y) (v:=true) L.mt (iP _ c1) c2 (iP _ d1) d2 Ht Ht fun k f=>(List.Perm.mem_iff (.cons _ (.swap ..))).mp (fo_mem.mpr f);have L':=L.turn (l:=[(x - 1,y - 1),(x,y - 1),(x - 1,y),(x,y)]) (fun k=>fo_mem) p;have q:∀k,Fo x y k->k∈Ks:=fun k f=>iK k (p k f).1;have q1:=q (x - 1,y - 1) ⟨.inl rfl,.inl rfl⟩;have q2:=q (x,y - 1) ⟨.inr rfl,.inl rfl⟩;have q3:=q (x - 1,y) ⟨.inl rfl,.inr rfl⟩;have q4:=q (x,y) ⟨.inr rfl,.inr rfl⟩;have e:=(BS (μ:=mir x y false) (g:=m) q1 Hv);have e':=(BS (μ:=mir x y false) (g:=up (mir x y false) (x - 1,y - 1) m) q2 mir_f2);have e3:=(BS (μ:=mir x y false) (g:=up (mir x y false) (x,y - 1) (up (mir x y false) (x - 1,y - 1) m)) q3 Hv);have e4:=(BS (μ:=mir x y false) (g:=up (mir x y false) (x - 1,y) (up (mir x y false) (x,y - 1) (up (mir x y false) (x - 1,y - 1) m))) q4 mir_f2);refine ⟨rfl,u _,rfl,by rw [e];exact u _,rfl,by rw [e,e'];exact u _,rfl,by rw [e,e',e3];exact u _,?_⟩
  have:=hK true _ _ L'
  rw [show ups (mir x y (!true)) [(x - 1,y - 1),(x,y - 1),(x - 1,y),(x,y)] m=up (mir x y false) (x,y) (up (mir x y false) (x - 1,y) (up (mir x y false) (x,y - 1) (up (mir x y false) (x - 1,y - 1) m))) from rfl,<- e4,<- e3,<- e',<- e] at this
  exact this
 have Y:∀X:XL,wpSs t0 (c_lturn.body.drop 2) X (tuM a x y aa aa aa) [.at a (.dict (fD (spm m) Ks))] (fun fl Z τ=>retW .val 1 (flV fl) τ K):=fun X=>by
  refine ⟨rfl,rfl,E9 ?_⟩;refine ifB (fun e1=>?_) fun Z=>z X;refine ⟨rfl,rfl,E9 ?_⟩;refine ifB (fun e2=>?_) fun Z=>z X;refine Ao (of_decide_eq_true e1) fun c1 c2=>?_;refine Ao (of_decide_eq_true e2) fun d1 d2=>?_;have p:=fo_p (x:=x) (y:=y) (v:=false) L.mt (iP _ c1) c2 (iP _ d1) d2 Hv Hv fun k f=>fo_mem.mpr f;have L':=L.turn (l:=[(x - 1,y - 1),(x - 1,y),(x,y - 1),(x,y)]) (fun k=>(List.Perm.mem_iff (.cons _ (.swap ..))).trans fo_mem) p;have q:∀k,Fo x y k->k∈Ks:=fun k f=>iK k (p k f).1;have q1:=q (x - 1,y - 1) ⟨.inl rfl,.inl rfl⟩;have q2:=q (x,y - 1) ⟨.inr rfl,.inl rfl⟩;have q3:=q (x - 1,y) ⟨.inl rfl,.inr rfl⟩;have q4:=q (x,y) ⟨.inr rfl,.inr rfl⟩;have e:=(BS (μ:=mir x y true) (g:=m) q1 Ht);have e':=(BS (μ:=mir x y true) (g:=up (mir x y true) (x - 1,y - 1) m) q3 mir_t2);have e3:=(BS (μ:=mir x y true) (g:=up (mir x y true) (x - 1,y) (up (mir x y true) (x - 1,y - 1) m)) q2 Ht);have e4:=(BS (μ:=mir x y true) (g:=up (mir x y true) (x,y - 1) (up (mir x y true) (x - 1,y) (up (mir x y true) (x - 1,y - 1) m))) q4 mir_t2);refine ⟨rfl,u _,rfl,by rw [e];exact u _,rfl,by rw [e,e'];exact u _,rfl,by rw [e,e',e3];exact u _,?_⟩
  have:=hK true _ _ L'
  rw [show ups (mir x y (!false)) [(x - 1,y - 1),(x - 1,y),(x,y - 1),(x,y)] m=up (mir x y true) (x,y) (up (mir x y true) (x,y - 1) (up (mir x y true) (x - 1,y) (up (mir x y true) (x - 1,y - 1) m))) from rfl,<- e4,<- e3,<- e',<- e] at this
  exact this
 exact ⟨rfl,Y _⟩
end
section
structure Flr(P C:List Sp)(a:Sp):Prop where
 few:P.length<=36
 up:P.Pairwise lt2
 sm:∀k∈P,(0<=k.1/\k.1<6)/\0<=k.2/\k.2<6
 ne:∃P',P=a::P'
 hg:Hangs P a
 co:Cor P C
theorem Flo.flr{G:Gr}{w:Nat}(f:Flo G w):∃a,Flr (Ae G) (corC G w) a:=by
 refine X2pp f.ne fun a P' e h=>?_;have h6:=f.g.h6;have w6:=f.g.w6;exact ⟨a,f.g.cells,H8 G,fun k hk=>by refine B0 (f.g.in hk) fun q1 q2 q3 q4=>?_;exact ⟨⟨q1,by exact lin [w] [k.fst] (.g V0 K6) [.b V0 K6,.g V0 (.c V0)] rfl w6 q2⟩,q3,by exact lin [bR G] [k.snd] (.g V0 K6) [.b V0 K6,.g V0 (.c V0)] rfl h6 q4⟩,⟨P',e⟩,h,f.g.cor⟩
theorem Flr.ha{P C:List Sp}{a:Sp}(f:Flr P C a):a∈P:=by
 refine X1p f.ne fun P' e=>?_;rw [e];exact .head _
theorem Lyd.len{P Ks:List Sp}{m:Sp->Sp}{h:Sp->Int}(L:Lyd P Ks m h)(hP:P.length<=36):Ks.length<=36:=aB (sub_length L.nd fun k hk=>(L.mem k).mp hk) hP
noncomputable def all49:List Sp:=(ivs 0 7).flatMap fun x=>(ivs 0 7).map fun y=>(x,y)
noncomputable def hash49:List Int:=[-8458139203682520985,-1950498447580522560,7204814214171964562,-4734289103435588629,1773351652666409796,-3119722376306286570,-1010439003188656273,-5164621852614943976,8389048192121911274,-3550055125485641917,-1440771752368011620,-6333845781340707986,173794974761290439,-4719279054211405927,4685526799349444076,6794810172467074373,1901736143494378007,8409376899596376432,3516302870623680066,-8422800446983873125,-6313517073866242828,2248468952609198383,8756109708711196808,3863035679738500442,5972319052856130739,1079245023883434373,7586885779985432798,-4352217537622120393,-6348126469135965181,159514286966033244,-9131917124991031250,-2624276368889032825,3883364387212965600,-1009709641759730766,1099573731357899531,-3054609118068388172,3453031638033610253,-5838399773923454241,669240982178544184,-4223833046794152182,2283807709307846243,-7007623702649218251,-5491666964808633865,8062003079928221385,-3877100237679331806,2630540518422666619,-6660890893534397875,-153250137432399450,-5046324166405095816]
theorem hash_all:all49.map A8=hash49:=by decide +kernel
theorem hash_dif:hash49.Nodup:=by decide +kernel
theorem KA:(all49.map A8).Nodup:=by rw [hash_all];exact hash_dif
theorem inj_nd{f:Sp->Int}{a b:Sp}:∀{l:List Sp},(l.map f).Nodup->a∈l->b∈l->f a=f b->a=b
 | [],_,h,_,_=>by cases h
 | x::l,nd,ha,hb,e=>by
  rw [bm,bz] at nd
  rcases aD.mp ha with z | ha<;>rcases aD.mp hb with y | hb
  ·exact z.trans y.symm
  ·rw [z] at e
   exact absurd (e▸cD hb) nd.1
  ·rw [y] at e
   exact absurd (e▸cD ha) nd.1
  ·exact inj_nd nd.2 ha hb e
theorem Gd{k:Sp}(h:(0<=k.1/\k.1<7)/\0<=k.2/\k.2<7):k∈all49:=eA.mpr ⟨k.1,ivs_mem.mpr h.1,aZ.mpr ⟨k.2,ivs_mem.mpr h.2,rfl⟩⟩
theorem fD_map{β:Type}{f:Af->AV}{l:List Af}(g:Af->β):((fD f l).map fun p=>g p.1)=l.map g:=by unfold fD;rw [bc];rfl
theorem KC{Ks:List Sp}{f:Af->AV}(nd:Ks.Nodup)(hs:∀k∈Ks,(0<=k.1/\k.1<7)/\0<=k.2/\k.2<7):((fD f Ks).map fun p=>A8 p.1).Nodup:=by
 rw [fD_map];exact cM.mpr (nd.imp_of_mem fun {a b} ha hb ne e=>ne (inj_nd KA (Gd (hs a ha)) (Gd (hs b hb)) e))
inductive LR(avs:List AV)(V:LS)(K:KR):Prop
 | mk (P:List Sp)(C:List Sp)(a:_)(Ks:List Sp)(m:Sp->Sp)(h:Sp->Int)(n:_)(c:_)(c0:avs=[.dict (fD (spm m) Ks),.int n,.int c])(c1:V=[])(c2:(Flr P C a/\Lyd P Ks m h/\0<=c/\c<=1000))(c3:∀m' h',Lyd P Ks m' h'->K ⟨[.dict (fD (spm m') Ks)],.new 0⟩ []):LR avs V K
noncomputable def fDrawn:FS:=specF fun avs V K Z=>LR avs V K
noncomputable def drM(D0:List (Af×AV))(n c:Int)(f:Addr)(x:Option AV):M:=[some (.dict D0),some (.int n),some (.int c),some (.loc f 4),x]
noncomputable def drS(f:Addr)(D:List (Af×AV)):LS:=[.no,.no,.no,.no,.at f (.dict D)]
inductive DrJ(P Ks:List Sp)(D0:List (Af×AV))(c:Int)(f:Addr)(d r:List Int):M->LS->Prop
 | mk (n:Int)(x:Option AV)(D:List (Af×AV))(m:Sp->Sp)(h:Sp->Int)(L:Lyd P Ks m h)(e:D=fD (spm m) Ks):DrJ P Ks D0 c f d r (drM D0 n c f x) (drS f D)
theorem drawn_ok:FnOk ⟨true,[],[(73,EA),(86,fTurn)],[],[]⟩ Ci .new 2 5 fDrawn:=by
 refine .specF fun u V K X h=>?_;obtain ⟨P,C,a,Ks,m,h,n,c,rfl,rfl,⟨F,L,h0,h1⟩,hK⟩:=h;have lK:=L.len F.few;have iP:=fun k=>(L.mem k).mp;have ne:fD (spm m) Ks≠[]:=fun e=>by
  have:=(L.mem a).mpr F.ha
  rw [show Ks=[] from List.map_eq_nil_iff.mp e] at this
  cases this
 refine ⟨rfl,.inl ⟨⟨Ar (by rw [Bj];exact lin [Ks.length] [] (.b V0 AE) [.b V0 K36] rfl lK),ne,KC L.nd fun k hk=>by obtain ⟨⟨q1,q2⟩,q3,q4⟩:=F.sm k (iP k hk);exact ⟨⟨q1,by exact lin [] [k.fst] (.g V0 K7) [.g V0 K6] rfl q2⟩,q3,by exact lin [] [k.snd] (.g V0 K7) [.g V0 K6] rfl q4⟩⟩,fun f=>⟨Cx (by decide) (by decide) (by exact lin [] [c] (.f Bk V0) [.f K0 V0] rfl h0) (by exact lin [] [c] (.f V0 Az) [.f V0 AE] rfl h1),?_⟩⟩⟩
 refine AQ (g:=.int) (JN 0 c) (DrJ P Ks (fD (spm m) Ks) c f) (fun d m τ j=>?_) (fun d y r m τ j C hC=>?_) (d:=[]) (.mk _ _ _ m h L rfl)
 ·cases j with
  | mk n x D m h L e=>subst e;exact ⟨rfl,hK m h L⟩
 ·cases j with
  | mk n x D m h L e =>
   subst e;exact ⟨f,(_,_),P,Ks,m,h,rfl,rfl,⟨lK,L⟩,fun b m' h' L'=>hC _ _ (.mk _ _ _ m' h' L' rfl)⟩
noncomputable def pcA(q:Af×Af):AV:=.tup [sp q.1,sp q.2]
noncomputable def pc?(a:AV):Option (Af×Af):=a.tup?.bind fun l=>(two? l).bind fun z=>(spot? z.1).bind fun u=>(spot? z.2).bind fun v=>some (u,v)
theorem pc?_out{a:AV}{q:Af×Af}(h:pc? a=some q):a=pcA q:=by
 refine X1pp (AG h) fun l h1 h=>?_;refine X1pp (AG h) fun z h2 h=>?_;refine X1pp (AG h) fun u h3 h=>?_;refine X1pp (AG h) fun v h4 h=>?_
 cases h
 rw [AV.tup?_out h1,two?_out h2,spot?_out h3,spot?_out h4];rfl
noncomputable def kyP(x:AV):Option Af:=(pc? x).bind fun q=>some (q.1.2,q.1.1)
noncomputable def firstF(avs:List AV):Option AV:=(one? avs).bind fun a=>(kyP a).bind fun k=>some (sp k)
theorem first_ok:FnOk ⟨true,[],[(89,pureF keyF)],[],[]⟩ Ic .val 0 0 (pureF firstF):=by
 refine .pureF fun u v h K hK=>?_;refine X1pp (AG h) fun a h1 h=>?_;refine X1pp (AG h) fun k h2 h=>?_;refine X1pp (AG h2) fun q h3 h2=>?_
 cases h
 cases h2
 obtain rfl:=one?_out h1;rw [pc?_out h3];exact ⟨rfl,hK⟩
theorem kyP_pure(x:AV)(p:Af)(h:kyP x=some p):(pureF firstF).pure [x]=some (sp p):=by
 show (kyP x).bind _=_;rw [h];rfl
theorem perm_pcs{L:List AV}{H0:List (Sp×Sp)}(h:L.Perm (H0.map pcA)):∃H:List (Sp×Sp),L=H.map pcA/\H.Perm H0:=by
 have e:∀H:List (Sp×Sp),(H.map pcA).map (fun x=>(pc? x).getD ((0,0),(0,0)))=H:=fun H=>by
  rw [bc];exact iD H
 refine ⟨L.map fun x=>(pc? x).getD ((0,0),(0,0)),?_,?_⟩
 ·rw [bc]
  refine (iD L).symm.trans (cQ fun x hx=>?_);refine X1pp (aZ.mp (h.mem_iff.mp hx)) fun q Z Z0=>?_;clear hx;subst Z0
  rfl
 ·have:=h.map fun x=>(pc? x).getD ((0,0),(0,0))
  rwa [e] at this
theorem Hand.len{P:List Sp}{m:Sp->Sp}{H:List (Sp×Sp)}(h:Hand P m H)(hP:P.length<=36):H.length<=18:=by
 have h1:=sub_length h.nd fun k hk=>(h.mem k).mp hk;have h2:(BX H).length=2 * H.length:=by
  clear h h1;unfold BX
  induction H with
  | nil=>rfl
  | cons q d ih=>rw [List.flatMap_cons,ao,ih];show 2+2 * d.length=2 * (d.length+1);exact aw (lin [d.length] [] (.b (.A K2 (.M 2 V0)) (.M 2 (.A V0 K1))) [] rfl) (lin [d.length] [] (.b (.M 2 (.A V0 K1)) (.A K2 (.M 2 V0))) [] rfl)
 exact lin [P.length,(BX H).length,H.length] [] (.B 2 V2 K18) [.b V0 K36,.b V1 V0,.D (-1) V1 (.M 2 V2)] rfl hP h1 h2
theorem Lyd.mtK{P Ks:List Sp}{m:Sp->Sp}{h:Sp->Int}(L:Lyd P Ks m h):Mt Ks m:=fun k hk=>by
 refine Ao (L.mt k ((L.mem k).mp hk)) fun h1 h2=>?_;refine Bp (nbP_mem.mp h1) fun Z n1 n2=>?_;exact ⟨nbP_mem.mpr ⟨hk,n1,(L.mem _).mpr n2⟩,h2⟩
theorem Lyd.hand{P Ks:List Sp}{m:Sp->Sp}{h:Sp->Int}{H:List (Sp×Sp)}(L:Lyd P Ks m h)(p:H.Perm (layM Ks m)):Hand P m H:=by
 have:=(L.mtK.lay L.nd).among L.mtK ⟨fun q hq=>.inl (p.mem_iff.mp hq),p.flatMap_right _⟩
 exact ⟨fun q hq=>⟨(L.mem _).mp (this.at_ q hq).1,(this.at_ q hq).2⟩,this.nd,fun k=>(this.mem k).trans (L.mem k)⟩
theorem fD_sp(f:Af->AV)(l:List Af):((fD f l).map fun p=>sp p.1)=l.map sp:=fD_map sp
theorem ord_lt(a b:Sp):AL (a.2,a.1) (b.2,b.1)=Hs a b:=by
 refine Bool.eq_iff_iff.mpr (pairLt_iff.trans ?_);unfold Hs
 by_cases q:a.2=b.2
 ·rw [if_pos q,decide_eq_true_iff]
  exact ⟨fun z=>z.elim (fun z=>absurd q (Int.ne_of_lt z)) (·.2),fun z=>.inr ⟨q,z⟩⟩
 ·rw [if_neg q,decide_eq_true_iff]
  exact ⟨fun z=>z.elim id fun z=>absurd z.1 q,.inl⟩
inductive QfTold(avs:List AV)(V:LS)(K:KR):Prop
 | mk (P:List Sp)(Ks:List Sp)(m:Sp->Sp)(h:Sp->Int)(c0:avs=[.dict (fD (spm m) Ks)])(c1:V=[])(c2:(P.length<=36/\Lyd P Ks m h))(c3:∀H:List (Sp×Sp),Hand P m H->K ⟨[.list (H.map pcA)],.new 0⟩ []):QfTold avs V K
noncomputable def fTold:FS:=specF fun avs V K Z=>QfTold avs V K
theorem told_ok:FnOk ⟨true,[],[(89,pureF keyF)],[],[(91,kyP)]⟩ Ly .new 2 5 fTold:=by
 refine .specF fun u V K X h=>?_;obtain ⟨P,Ks,m,h,rfl,rfl,⟨hP,L⟩,hK⟩:=h;have lK:=L.len hP;have lm:(layM Ks m).length<=Ks.length:=by unfold layM;rw [aj];exact d5 _ _
 refine ⟨rfl,Ar (by rw [aj,Bj];exact lin [Ks.length] [] (.b V0 AE) [.b V0 K36] rfl lK),?_⟩
 refine F2 (g:=sp) (f:=fun k=>pcA (k,m k)) (P:=fun k=>Hs k (m k)) (fD_sp _ _) (fun k hk ys C h1 h2=>?_) ?_
 ·refine ⟨_,Cs hk,?_⟩
  rw [<- ord_lt] at h1 h2;exact ifB (fun e=>⟨_,Cs hk,h1 e⟩) h2
 ·have e:((Ks.filter fun k=>Hs k (m k)).map fun k=>pcA (k,m k))=(layM Ks m).map pcA:=by unfold layM;rw [bc];rfl
  rw [e];refine ⟨⟨fun x hx=>by refine X1pp (aZ.mp hx) fun q Z Z0=>?_;clear hx;subst Z0;rfl,by rw [aj];exact lin [Ks.length,(layM Ks m).length] [] (.c V1 K64) [.b V0 K36,.b V1 V0] rfl lK lm,?_⟩,fun L' hL a=>?_⟩
  ·unfold layM
   rw [bc,bc];refine cM.mpr ((L.nd.filter _).imp fun {a b} q (e:((a.2,a.1):Sp)=(b.2,b.1))=>q ?_);exact bH (gO e).2 (gO e).1
  ·refine X1lp L' (perm_pcs hL.1) fun H p=>?_
   exact ⟨rfl,hK H (L.hand p)⟩
inductive Im(avs:List AV)(V:LS)(K:KR):Prop
 | mk (P:List Sp)(Ks:List Sp)(m:Sp->Sp)(h:Sp->Int)(n:_)(c0:avs=[.dict (fD (spm m) Ks),.int n])(c1:V=[])(c2:(P.length<=36/\Lyd P Ks m h))(c3:∀H:List (Sp×Sp),Hand P m H->K ⟨[.list (H.map pcA)],.new 0⟩ []):Im avs V K
noncomputable def Ld:FS:=specF fun avs V K Z=>Im avs V K
noncomputable def hdM(D:List (Af×AV))(n:Int)(f:Addr)(x3 x4 x5:Option AV):M:=[some (.dict D),some (.int n),some (.loc f 4),x3,x4,x5]
noncomputable def hdS(f:Addr)(L:List AV):LS:=[.no,.no,.no,.no,.at f (.list L)]
inductive HdJ(H:List (Sp×Sp))(D:List (Af×AV))(n:Int)(f:Addr)(d r:List (Sp×Sp)):M->LS->Prop
 | mk (x3 x4 x5:Option AV)(L:List AV)(Z:List (Sp×Sp))(hd:d++r=H)(am:Among d Z)(hl:Z.length=d.length)(e:L=Z.map pcA):HdJ H D n f d r (hdM D n f x3 x4 x5) (hdS f L)
noncomputable abbrev tHd:Tab:=⟨true,[],[(73,EA),(90,fTold)],[],[]⟩
theorem ins_pcs{Z:List (Sp×Sp)}{i:Nat}{q:Sp×Sp}:IY (Z.map pcA) i (pcA q)=(insG Z i q).map pcA:=by
 unfold IY insG;rw [aP,bm,List.map_take,List.map_drop]
theorem insG_len{α:Type}{Z:List α}{i:Nat}{q:α}(h:i<=Z.length):(insG Z i q).length=Z.length+1:=by
 unfold insG;rw [ao,aL,fH,List.length_drop];exact aw (lin [min i Z.length,i,Z.length - i,Z.length] [] (.b (.A V0 (.A V2 K1)) (.A V3 K1)) [.b V0 V1,.d (.A V2 V1) V3] rfl (gd i Z.length) (an (lin [i,Z.length] [] (.b V0 V1) [.b V0 V1] rfl h))) ((GF i Z.length).elim (fun z0=>lin [Z.length,i,Z.length - i,min i Z.length] [] (.b (.A V0 K1) (.A V3 (.A V2 K1))) [.b V0 (.A V1 V2),.D (-1) V3 V1] rfl (aq.mp (ay ((Z.length) - (i)))) z0) (fun z0=>lin [min i Z.length,Z.length,Z.length - i] [] (.b (.A V1 K1) (.A V0 (.A V2 K1))) [.D (-1) V0 V1] rfl z0))
theorem hd_turn{H d r:List (Sp×Sp)}{D:List (Af×AV)}{n:Int}{f:Addr}{q:Sp×Sp}{m:M}{V:LS}{X:XL}{KK:KS}(hH:H.length<=18)(j:HdJ H D n f d (q::r) m V)(C:M->LS->Prop)(hC:∀As Ab,HdJ H D n f (d++[q]) r As Ab->C As Ab) :
  patW true (.tup [(.v 3),(.v 4)]) (.tup [.int d.length,pcA q]) m (fun Am=>wpSs tHd [.assign (.v 5) (.sub (.list [(.v 4),(.tup [(.sub (.v 4) (.int 1)),(.sub (.v 4) (.int 0))])]) (.bin .Mod (.bin .FloorDiv (.call (.g 73) [(.v 1),(.v 3)]) (.int 7)) (.int 2))),.expr (.meth (.v 2) 2 [(.bin .Mod (.bin .FloorDiv (.call (.g 73) [(.v 1),(.v 3)]) (.int 14)) (.bin .Add (.call (.g 0) [(.v 2)]) (.int 1))),(.v 5)])] X Am V (Ex aa V C KK)):=by
 cases j with
 | mk x3 x4 x5 L Z hd am hl e =>
  have T:(d++[q])++r=H:=by rw [aI];exact hd
  have ld:=CB hd;have lL:L.length=d.length:=by rw [e,aj,hl]
  have lb:L.length<=big:=Ar (by exact lin [H.length,d.length,L.length] [] (.b V2 AE) [.b V0 K18,.c V1 V0,.d V2 V1] rfl hH ld lL)
  generalize hN:(n * 48271+7919 * (d.length:Int)+11).fmod 2147483647=N;have two:(N.fdiv 7).fmod 2=0\/(N.fdiv 7).fmod 2=1:=by
   have:=Be (a:=N.fdiv 7) (b:=2) (by decide);exact bQ fun z0=>(aQ (fun z=>z0 (.inl z))).elim (fun z1=>lin [] [(N.fdiv 7).fmod 2] .no [.f K0 V0,.g V0 K0] rfl this.1 z1) (fun z1=>(aQ (fun z=>z0 (.inr z))).elim (fun z2=>lin [] [(N.fdiv 7).fmod 2] .no [.g K0 V0,.g V0 K1] rfl z1 z2) (fun z2=>lin [] [(N.fdiv 7).fmod 2] .no [.g V0 K2,.g K1 V0] rfl this.2 z2))
  have at_:∀z,z=q\/z=(q.2,q.1)->C (hdM D n f (some (.int d.length)) (some (pcA q)) (some (pcA z))) (hdS f (IY L ((N.fdiv 14).fmod (L.length+1)).toNat (pcA z))):=fun z hz=>by
   have b:=Be (a:=N.fdiv 14) (b:=(L.length:Int)+1) (by exact lin [L.length] [] (.g K0 (.A (.c V0) K1)) [] rfl)
   refine hC _ _ (.mk _ _ _ _ (insG Z ((N.fdiv 14).fmod (L.length+1)).toNat z) T (am.put _ hz) ?_ (by rw [e,ins_pcs]))
   rw [insG_len (by omega),hl,ao];rfl
  have go:∀z,z=q\/z=(q.2,q.1)->wpSs tHd [.expr (.meth (.v 2) 2 [(.bin .Mod (.bin .FloorDiv (.call (.g 73) [(.v 1),(.v 3)]) (.int 14)) (.bin .Add (.call (.g 0) [(.v 2)]) (.int 1))),(.v 5)])] X (hdM D n f (some (.int d.length)) (some (pcA q)) (some (pcA z))) (hdS f L) (Ex aa (hdS f L) C KK):=fun z hz=>by
   have b:=Be (a:=N.fdiv 14) (b:=(L.length:Int)+1) (by exact lin [L.length] [] (.g K0 (.A (.c V0) K1)) [] rfl)
   have b2:((N.fdiv 14).fmod (L.length+1)).toNat<=L.length:=by omega
   have:=at_ z hz
   rw [<- hN] at b b2 this;exact ⟨rfl,rfl,lb,by exact fun z0=>lin [L.length] [] .no [.h (.A (.c V0) K1) K0] rfl z0,rfl,⟨b.1,b2⟩,lb,this⟩
  rcases two with e0 | e0<;>rw [<- hN] at e0
  ·refine ⟨by rw [e0];decide,_,by rw [e0];rfl,go q (.inl rfl)⟩
  ·refine ⟨by rw [e0];decide,_,by rw [e0];rfl,go (q.2,q.1) (.inr rfl)⟩
theorem KF:FnOk tHd F6 .new 4 5 Ld:=by
 refine .specF fun u V K X h=>?_;obtain ⟨P,Ks,m,h,n,rfl,rfl,⟨hP,L⟩,hK⟩:=h;refine ⟨rfl,fun f=>⟨P,Ks,m,h,rfl,rfl,⟨hP,L⟩,fun H hH=>?_⟩⟩;show I2 true (.tup [(.v 3),(.v 4)]) _ aa _ (Cp (H.map pcA)) (hdM (fD (spm m) Ks) n f aa aa aa) (hdS f []);rw [GW];refine Fa (g:=pcA) (HdJ H (fD (spm m) Ks) n f) (fun d m' τ j=>?_) (fun d q r m' τ j C hC=>hd_turn (hH.len hP) j C hC) (d:=[]) (.mk _ _ _ [] [] rfl ⟨fun Y z=>(by cases z),.refl _⟩ rfl rfl)
 cases j with
 | mk x3 x4 x5 L' Z hd am hl e =>
  rw [aM] at hd;subst hd;subst e;exact ⟨rfl,hK Z (hH.among L.mt am)⟩
end
section
noncomputable def lrF(x y:Int)(w:Sp):Sp×Sp:=if w=(1,0) then ((x,y - 1),(x,y)) else if w=(0,1) then ((x,y),(x - 1,y)) else if w=(-1,0) then ((x - 1,y),(x - 1,y - 1)) else ((x - 1,y - 1),(x,y - 1))
theorem Hd.lr{x y:Int}{w o l r:Sp}(h:Hd x y w o l r):(l,r)=lrF x y w:=by cases h<;>rfl
theorem Hd.o{x y:Int}{w o l r:Sp}(h:Hd x y w o l r):o=(x+w.1,y+w.2):=by
 cases h with
 | r=>exact bH rfl (bB y).symm
 | d=>exact bH (bB x).symm rfl
 | l=>exact bH rfl (bB y).symm
 | u=>exact bH (bB x).symm rfl
theorem Hd.one{x y:Int}{w w' o l r l' r':Sp}(h:Hd x y w o l r)(h':Hd x y w' o l' r'):l=l'/\r=r':=by
 have e:=h.o.symm.trans h'.o;have e1:x+w.1=x+w'.1:=congrArg fU e;have e2:y+w.2=y+w'.2:=congrArg gG e;obtain rfl:w=w':=bH (by exact ah (lin [] [x,w.fst,w'.fst] (.f V1 V2) [.h (.A V0 V1) (.A V0 V2)] rfl e1) (lin [] [x,w.fst,w'.fst] (.f V2 V1) [.H (-1) (.A V0 V1) (.A V0 V2)] rfl e1)) (by exact ah (lin [] [y,w.snd,w'.snd] (.f V1 V2) [.h (.A V0 V1) (.A V0 V2)] rfl e2) (lin [] [y,w.snd,w'.snd] (.f V2 V1) [.H (-1) (.A V0 V1) (.A V0 V2)] rfl e2))
 exact gO (h.lr.trans h'.lr.symm)
theorem Hd.way{x y:Int}{w o l r:Sp}(h:Hd x y w o l r):w∈ways:=by
 cases h with
 | r=>exact .head _
 | d=>exact .tail _ (.head _)
 | l=>exact .tail _ (.tail _ (.head _))
 | u=>exact .tail _ (.tail _ (.tail _ (.head _)))
theorem Hd.near{x y:Int}{w o l r:Sp}(h:Hd x y w o l r):r∈A2 l:=by
 cases h with
 | r=>exact Bu DI
 | d=>exact DJ
 | l=>exact DI
 | u=>exact Bu DJ
theorem Hd.abs{x y:Int}{w o l r:Sp}(h:Hd x y w o l r)(hx:x.natAbs<=1000)(hy:y.natAbs<=1000):(l.1.natAbs<=1000000/\l.2.natAbs<=1000000)/\r.1.natAbs<=1000000/\r.2.natAbs<=1000000:=by
 have h1:(x - 1).natAbs<=1000000:=by omega
 have h2:(y - 1).natAbs<=1000000:=by omega
 have h3:x.natAbs<=1000000:=by exact lin [x.natAbs] [] (.b V0 Az) [.b V0 AE] rfl hx
 have h4:y.natAbs<=1000000:=by exact lin [y.natAbs] [] (.b V0 Az) [.b V0 AE] rfl hy
 cases h with
 | r=>exact ⟨⟨h3,h2⟩,h3,h4⟩
 | d=>exact ⟨⟨h3,h4⟩,h1,h4⟩
 | l=>exact ⟨⟨h1,h4⟩,h1,h2⟩
 | u=>exact ⟨⟨h1,h2⟩,h3,h2⟩
inductive QfStep(avs:List AV)(V:LS)(K:KR):Prop
 | mk (Ks:List Sp)(m:Sp->Sp)(x:_)(y:_)(w:_)(o:_)(l:_)(r:_)(c0:avs=[.dict (fD (spm m) Ks),sp (x,y),sp w])(c1:V=[])(c2:(Hd x y w o l r/\x.natAbs<=1000/\y.natAbs<=1000))(c3:(l∈Ks\/r∈Ks->K ⟨[],.val (.int (stp Ks m l r))⟩ []))(c4:(¬(l∈Ks\/r∈Ks)->K ⟨[],.val .none⟩ [])):QfStep avs V K
noncomputable def fStep:FS:=specF fun avs V K Z=>QfStep avs V K
theorem sg_if(k:Sp):sg k=match dark k with
 | true=>1
 | false=>-1:=rfl
theorem near_odd{l r:Sp}(h:r∈A2 l):((r.1+r.2).fmod 2 == 1)=dark l:=by
 have e:=BW h
 have:=Be (a:=r.1+r.2) (b:=2) (by decide)
 unfold dark at e ⊢
 rcases (show (r.1+r.2).fmod 2=0\/(r.1+r.2).fmod 2=1 by exact bQ fun z0=>(aQ (fun z=>z0 (.inl z))).elim (fun z1=>lin [] [(r.fst+r.snd).fmod 2] .no [.f K0 V0,.g V0 K0] rfl this.1 z1) (fun z1=>(aQ (fun z=>z0 (.inr z))).elim (fun z2=>lin [] [(r.fst+r.snd).fmod 2] .no [.g K0 V0,.g V0 K1] rfl z1 z2) (fun z2=>lin [] [(r.fst+r.snd).fmod 2] .no [.g V0 K2,.g K1 V0] rfl this.2 z2))) with q | q<;>rw [q] at e ⊢
 ·cases z:((l.1+l.2).fmod 2 == 0)<;>rw [z] at e<;>first | rfl | cases e
 ·cases z:((l.1+l.2).fmod 2 == 0)<;>rw [z] at e<;>first | rfl | cases e
noncomputable def stM(D:List (Af×AV))(x y:Int)(w l r:Sp)(x7 x8:Option AV):M:=[some (.dict D),some (sp (x,y)),some (sp w),some (.int x),some (.int y),some (sp l),some (sp r),x7,x8]
theorem Hh{Ks:List Sp}{m:Sp->Sp}{x y:Int}{w l r:Sp}{X:XL}{K:KR}(h:K ⟨[],.val (.int (stp Ks m l r))⟩ []) :
  wpSs t0 (c_lstep.body.drop 4) X (stM (fD (spm m) Ks) x y w l r (some (.bool (dark l))) aa) [] (fun fl Z τ=>retW .val 0 (flV fl) τ K):=by
 have go:wpSs t0 (c_lstep.body.drop 5) X (stM (fD (spm m) Ks) x y w l r (some (.bool (dark l))) (some (.int (sg l)))) [] (fun fl Z τ=>retW .val 0 (flV fl) τ K):=by
  unfold stp at h
  by_cases q:l∈Ks
  ·refine ⟨true,FK q,_,Cs q,?_⟩
   by_cases e:m l=r
   ·rw [if_pos ⟨q,e⟩] at h
    exact ⟨true,EqP.sp e,fG (by decide +kernel),h⟩
   ·rw [if_neg fun z=>e z.2] at h
    exact ⟨false,EqP.nsp e,h⟩
  ·rw [if_neg fun z=>q z.1] at h
   exact ⟨false,DD q,h⟩
 rw [sg_if] at go;generalize dark l=b at go ⊢
 cases b with
 | true=>exact go
 | false=>exact go
theorem step_ok:FnOk t0 c_lstep .val 6 0 fStep:=by
 refine .specF fun T V K X h=>?_;obtain ⟨Ks,m,x,y,w,o,l,r,rfl,rfl,⟨hd,hx,hy⟩,h1,h2⟩:=h;have U:wpSs t0 (c_lstep.body.drop 2) X (stM (fD (spm m) Ks) x y w l r aa aa) [] (fun fl Z τ=>retW .val 0 (flV fl) τ K):=by
  refine Ao (hd.abs hx hy) fun bl br=>?_;have nr:=near_odd hd.near
  by_cases q:l∈Ks
  ·exact ⟨true,FK q,true,FK q,bl,Hh (h1 (.inl q))⟩
  ·by_cases q':r∈Ks
   ·have:=Hh (X:=X) (x:=x) (y:=y) (w:=w) (h1 (.inr q'))
    rw [<- nr] at this;exact ⟨false,DD q,true,FK q',false,DD q,br,this⟩
   ·exact ⟨false,DD q,false,DD q',h2 fun z=>z.elim q q'⟩
 clear h1 h2
 cases hd with
 | r=>exact ⟨rfl,_,rfl,U⟩
 | d=>exact ⟨rfl,_,rfl,U⟩
 | l=>exact ⟨rfl,_,rfl,U⟩
 | u=>exact ⟨rfl,_,rfl,U⟩
noncomputable def hN(h:Sp->Int)(a:Sp)(k:Af):AV:=.int (h k - h a)
inductive Gh(avs:List AV)(V:LS)(K:KR):Prop
 | mk (P:List Sp)(C:List Sp)(a:_)(Ks:List Sp)(m:Sp->Sp)(h:Sp->Int)(c0:avs=[.dict (fD (spm m) Ks)])(c1:V=[])(c2:(Flr P C a/\Lyd P Ks m h))(c3:∀fs,fs.Nodup->(∀k,k∈fs↔k∈C)->K ⟨[.dict (fD (hN h a) fs)],.new 0⟩ []):Gh avs V K
noncomputable def HS:FS:=specF fun avs V K Z=>Gh avs V K
noncomputable abbrev tNu:Tab:=⟨true,[],[(104,fStep)],[],[(89,kyF)]⟩
noncomputable def nuM(D:List (Af×AV))(a:Sp)(a1 a2:Addr)(x4 x5 x6 x7:Option AV):M:=[some (.dict D),some (sp a),some (.loc a1 4),some (.loc a2 5),x4,x5,x6,x7]
noncomputable def nuS(a1 a2:Addr)(F:List (Af×AV))(W:List AV):LS:=[.no,.no,.no,.no,.at a1 (.dict F),.at a2 (.list W)]
inductive NuJ(P C:List Sp)(a:Sp)(h:Sp->Int)(D:List (Af×AV))(a1 a2:Addr):Nat->M->LS->Prop
 | mk (fs ws:List Sp)(x4 x5 x6 x7:Option AV)(F:List (Af×AV))(W:List AV)(hd:Dfs (Eg P) (·∈C) a fs ws)(hM:DX C.length fs ws<=2 * (C.length+1)+1)(eF:F=fD (hN h a) fs)(eW:W=ws.map sp):NuJ P C a h D a1 a2 (DX C.length fs ws) (nuM D a a1 a2 x4 x5 x6 x7) (nuS a1 a2 F W)
inductive NuI(P C:List Sp)(a:Sp)(h:Sp->Int)(D:List (Af×AV))(a1 a2:Addr)(e:Sp)(n:Nat)(d r:List Sp):M->LS->Prop
 | mk (fs ws:List Sp)(x5 x6 x7:Option AV)(F:List (Af×AV))(W:List AV)(hd:DfsAt (Eg P) (·∈C) a fs ws e (r.map fun w=>(e.1+w.1,e.2+w.2)))(hM:DX C.length fs ws<n)(hr:∀w∈r,w∈ways)(eF:F=fD (hN h a) fs)(eW:W=ws.map sp):NuI P C a h D a1 a2 e n d r (nuM D a a1 a2 (some (sp e)) x5 x6 x7) (nuS a1 a2 F W)
theorem list_nil(ws:List Sp):EqP (.list (ws.map sp)) (.list []) ws.isEmpty:=by
 cases ws with
 | nil=>exact (Nice.spots []).eq (by decide)
 | cons k ws =>
  refine X1ppp (Nice.spots (k::ws)) fun p h1 h2 h3=>?_;refine .py ⟨p,.list [],h1,rfl,?_,rfl,?_⟩
  ·unfold dE
   rw [h2,decide_eq_true (aB h3 (by decide))];rfl
  ·have:Gm (.list ((k::ws).map sp))=some (.list ((k::ws).map Em)):=by show (Dn _).map _=_;rw [Hf];rfl
   rw [this] at h1
   cases h1
   rfl
theorem Flr.cSm{P C:List Sp}{a:Sp}(F:Flr P C a){k:Sp}(h:k∈C):(0<=k.1/\k.1<7)/\0<=k.2/\k.2<7:=by
 refine X1pp ((F.co.mem k).mp h) fun c hc hk=>?_;obtain ⟨⟨h1,h2⟩,h3,h4⟩:=F.sm c hc;unfold Bm at hk;simp only [aD,bn,or_false] at hk
 have:(k.1=c.1\/k.1=c.1+1)/\(k.2=c.2\/k.2=c.2+1):=by
  rcases hk with rfl | rfl | rfl | rfl
  ·exact ⟨.inl rfl,.inl rfl⟩
  ·exact ⟨.inr rfl,.inl rfl⟩
  ·exact ⟨.inl rfl,.inr rfl⟩
  ·exact ⟨.inr rfl,.inr rfl⟩
 exact ⟨⟨hk.elim (fun z0=>this.1.elim (fun z1=>lin [] [c.fst,k.fst] (.f K0 V1) [.f K0 V0,.H (-1) V1 V0] rfl h1 z1) (fun z1=>lin [] [c.fst,k.fst] (.f K0 V1) [.f K0 V0,.H (-1) V1 (.A V0 K1)] rfl h1 z1)) (fun z0=>this.1.elim (fun z1=>lin [] [c.fst,k.fst] (.f K0 V1) [.f K0 V0,.H (-1) V1 V0] rfl h1 z1) (fun z1=>lin [] [c.fst,k.fst] (.f K0 V1) [.f K0 V0,.H (-1) V1 (.A V0 K1)] rfl h1 z1)),hk.elim (fun z0=>this.1.elim (fun z1=>lin [] [c.fst,k.fst] (.g V1 K7) [.g V0 K6,.h V1 V0] rfl h2 z1) (fun z1=>lin [] [c.fst,k.fst] (.g V1 K7) [.g V0 K6,.h V1 (.A V0 K1)] rfl h2 z1)) (fun z0=>this.1.elim (fun z1=>lin [] [c.fst,k.fst] (.g V1 K7) [.g V0 K6,.h V1 V0] rfl h2 z1) (fun z1=>lin [] [c.fst,k.fst] (.g V1 K7) [.g V0 K6,.h V1 (.A V0 K1)] rfl h2 z1))⟩,⟨hk.elim (fun z0=>this.1.elim (fun z1=>this.2.elim (fun z2=>lin [] [c.snd,k.snd] (.f K0 V1) [.f K0 V0,.H (-1) V1 V0] rfl h3 z2) (fun z2=>lin [] [c.snd,k.snd] (.f K0 V1) [.f K0 V0,.H (-1) V1 (.A V0 K1)] rfl h3 z2)) (fun z1=>this.2.elim (fun z2=>lin [] [c.snd,k.snd] (.f K0 V1) [.f K0 V0,.H (-1) V1 V0] rfl h3 z2) (fun z2=>lin [] [c.snd,k.snd] (.f K0 V1) [.f K0 V0,.H (-1) V1 (.A V0 K1)] rfl h3 z2))) (fun z0=>this.1.elim (fun z1=>this.2.elim (fun z2=>lin [] [c.snd,k.snd] (.f K0 V1) [.f K0 V0,.H (-1) V1 V0] rfl h3 z2) (fun z2=>lin [] [c.snd,k.snd] (.f K0 V1) [.f K0 V0,.H (-1) V1 (.A V0 K1)] rfl h3 z2)) (fun z1=>this.2.elim (fun z2=>lin [] [c.snd,k.snd] (.f K0 V1) [.f K0 V0,.H (-1) V1 V0] rfl h3 z2) (fun z2=>lin [] [c.snd,k.snd] (.f K0 V1) [.f K0 V0,.H (-1) V1 (.A V0 K1)] rfl h3 z2))),hk.elim (fun z0=>this.1.elim (fun z1=>this.2.elim (fun z2=>lin [] [c.snd,k.snd] (.g V1 K7) [.g V0 K6,.h V1 V0] rfl h4 z2) (fun z2=>lin [] [c.snd,k.snd] (.g V1 K7) [.g V0 K6,.h V1 (.A V0 K1)] rfl h4 z2)) (fun z1=>this.2.elim (fun z2=>lin [] [c.snd,k.snd] (.g V1 K7) [.g V0 K6,.h V1 V0] rfl h4 z2) (fun z2=>lin [] [c.snd,k.snd] (.g V1 K7) [.g V0 K6,.h V1 (.A V0 K1)] rfl h4 z2))) (fun z0=>this.1.elim (fun z1=>this.2.elim (fun z2=>lin [] [c.snd,k.snd] (.g V1 K7) [.g V0 K6,.h V1 V0] rfl h4 z2) (fun z2=>lin [] [c.snd,k.snd] (.g V1 K7) [.g V0 K6,.h V1 (.A V0 K1)] rfl h4 z2)) (fun z1=>this.2.elim (fun z2=>lin [] [c.snd,k.snd] (.g V1 K7) [.g V0 K6,.h V1 V0] rfl h4 z2) (fun z2=>lin [] [c.snd,k.snd] (.g V1 K7) [.g V0 K6,.h V1 (.A V0 K1)] rfl h4 z2)))⟩⟩
theorem Flr.cAbs{P C:List Sp}{a:Sp}(F:Flr P C a){k:Sp}(h:k∈C):k.1.natAbs<=1000/\k.2.natAbs<=1000:=by
 have:=F.cSm h
 omega
theorem Flr.aC{P C:List Sp}{a:Sp}(F:Flr P C a):a∈C:=(F.co.mem a).mpr ⟨a,F.ha,.head _⟩
theorem c_len{C fs:List Sp}(nd:fs.Nodup)(h:∀k∈fs,k∈C):fs.length<=C.length+1:=dG (sub_length nd h)
theorem nu_turn{P C Ks:List Sp}{a e w:Sp}{m0:Sp->Sp}{h:Sp->Int}{a1 a2:Addr}{n:Nat}{d r:List Sp}{m:M}{V:LS}{X:XL}{KK:KS}(F:Flr P C a)(L:Lyd P Ks m0 h)(hn:n<=2 * (C.length+1)+1)
  (j:NuI P C a h (fD (spm m0) Ks) a1 a2 e n d (w::r) m V) (CC:M->LS->Prop) (hC:∀As Ab,NuI P C a h (fD (spm m0) Ks) a1 a2 e n (d++[w]) r As Ab->CC As Ab) :
  patW true (.v 5) (sp w) m (fun Am=>wpSs tNu [.assign (.v 6) (.tup [(.bin .Add (.sub (.v 4) (.int 0)) (.sub (.v 5) (.int 0))),(.bin .Add (.sub (.v 4) (.int 1)) (.sub (.v 5) (.int 1)))]),.assign (.v 7) (.call (.g 104) [(.v 0),(.v 4),(.v 5)]),.ite (.and [(.cmp .IsNot (.v 7) .none),(.cmp .NotIn (.v 6) (.v 2))]) [.setitem (.v 2) (.v 6) (.bin .Add (.sub (.v 2) (.v 4)) (.v 7)),.expr (.meth (.v 3) 0 [(.v 6)])] []] X Am V (Ex aa V CC KK)):=by
 cases j with
 | mk fs ws x5 x6 x7 D W hd hM hr eF eW =>
  refine X2p (ways_hd (x:=e.1) (y:=e.2) (hr w (.head _))) fun l r' hw=>?_;have eC:=hd.rc e hd.he;have u:∀w∈r,w∈ways:=fun c z=>hr c (.tail _ z);have co:=F.co.few;have lf:=c_len hd.nd hd.rc;have lw:=Dfs.len (aB (cK hM) hn);refine ⟨Ks,m0,e.1,e.2,w,_,l,r',rfl,rfl,⟨hw,F.cAbs eC⟩,fun q=>?_,fun q=>?_⟩
  ·have q':l∈P\/r'∈P:=q.imp (L.mem _).mp (L.mem _).mp
   by_cases c:(e.1+w.1,e.2+w.2)∈fs
   ·exact ⟨true,⟨rfl,by rw [eF];exact FK c⟩,hC _ _ (.mk fs ws _ _ _ D W (hd.skip fun Z=>c) hM u eF eW)⟩
   ·have eg:Eg P e (e.1+w.1,e.2+w.2):=⟨w,l,r',hw,q'⟩
    have pu:=hd.push (eg.in F.co) c;refine ⟨false,⟨rfl,by rw [eF];exact DD c⟩,rfl,.int (h e - h a),by rw [eF];exact Cs hd.he,rfl,Ar (by rw [eF,Bj];exact lin [C.length,fs.length] [] (.b V1 AE) [.c V0 K64,.b V1 (.A V0 K1)] rfl co lf),rfl,rfl,Ar (by rw [eW,aj];exact lin [C.length,ws.length] [] (.b V1 AE) [.C 2 V0 K64,.b V1 (.A (.M 2 (.A V0 K1)) K1)] rfl co lw),?_⟩
    have st:stp Ks m0 l r'=stp P m0 l r':=by
     unfold stp
     by_cases z:l∈Ks/\m0 l=r'
     ·rw [if_pos z,if_pos ⟨(L.mem _).mp z.1,z.2⟩]
     ·rw [if_neg z,if_neg fun y=>z ⟨(L.mem _).mpr y.1,y.2⟩]
    have hh:=L.ht.way L.mt hw q';refine hC _ _ (.mk _ _ _ _ _ _ _ pu (cW (DW (c_len pu.nd pu.rc)) hM) u ?_ (by rw [eW,aP];rfl))
    rw [eF];refine CJ c ?_;show AV.int (h e - h a+stp Ks m0 l r')=.int (h (e.1+w.1,e.2+w.2) - h a);rw [st,<- hh]
    congr 1
    show h e - h a+(h (e.1+w.1,e.2+w.2) - h e)=_;exact ah (lin [] [h (e.fst,e.snd),h a,h (e.fst+w.fst,e.snd+w.snd)] (.f (.A (.S V0 V1) (.S V2 V0)) (.S V2 V1)) [] rfl) (lin [] [h (e.fst+w.fst,e.snd+w.snd),h a,h (e.fst,e.snd)] (.f (.S V0 V1) (.A (.S V2 V1) (.S V0 V2))) [] rfl)
  ·refine hC _ _ (.mk fs ws _ _ _ D W (hd.skip fun z=>?_) hM u eF eW)
   refine X3pp z fun w' l' B T z=>?_;refine Ao (hw.one T) fun Z0 Z1=>?_;clear T;subst Z0;subst Z1;exact absurd (z.imp (L.mem _).mpr (L.mem _).mpr) q
theorem nu_for{body:List Mine.Internal.S}{X:XL}{m:M}{V:LS}{K:KS}(h:I2 true (.v 5) (wpSs tNu body X) aa (kSeq (wpSs tNu [] X) K) (ways.map sp) m V):wpSs tNu [.for_ (.v 5) (.list [(.tup [(.int 1),(.int 0)]),(.tup [(.int 0),(.int 1)]),(.tup [(.neg (.int 1)),(.int 0)]),(.tup [(.int 0),(.neg (.int 1))])]) body] X m V K:=h
set_option tactic.hygienic true in
theorem asgW{q:Bool}{i:Nat}{a:AV}{m:M}{V:LS}{f:M->LS->KS->Prop}{K:KS}(h:f (FA m i a) V K):patW q (.v i) a m (fun Am=>kSeq f K .next Am V):=h
theorem nu_body{P C Ks:List Sp}{a:Sp}{m:Sp->Sp}{h:Sp->Int}{X:XL}{KK:KS}(F:Flr P C a)(L:Lyd P Ks m h)(hK:∀fs a1 a2 m',fs.Nodup->(∀k,k∈fs↔k∈C)->KK (.ret (.loc a1 4)) m' (nuS a1 a2 (fD (hN h a) fs) [])) :
  wpSs tNu (c_lnumbers.body.drop 1) X [some (.dict (fD (spm m) Ks)),some (sp a),aa,aa,aa,aa,aa,aa] [.no,.no,.no,.no,.no,.no] KK:=by
 intro a1 a2;have co:=F.co.few;refine ⟨NuJ P C a h (fD (spm m) Ks) a1 a2,⟨_,.mk [a] [a] _ _ _ _ _ _ (Dfs.start F.aC) (by unfold DX;rw [bW];exact lin [C.length+1 - 1,C.length] [] (.b (.A (.M 2 V0) K1) (.A (.M 2 (.A V1 K1)) K1)) [.B 2 V0 (.A V1 K1)] rfl (eQ (C.length+1) (1))) (by unfold fD hN;rw [List.map_singleton,Int.sub_self];rfl) rfl⟩,fun n m' V j=>?_⟩
 cases j with
 | mk fs ws x4 x5 x6 x7 D W hd hM eF eW =>
  have O:W.length<=big:=by rw [eW,aj];exact DL (aB (Dfs.len hM) (by exact lin [C.length] [] (.b (.A (.M 2 (.A V0 K1)) K1) Gl) [.C 2 V0 K64] rfl co))
  refine ⟨rfl,ws.isEmpty,by rw [eW];exact list_nil ws,?_⟩
  rcases fu ws with rfl | ⟨w,e,rfl⟩
  ·subst eF;clear O;subst eW
   exact hK fs a1 a2 _ hd.nd (hd.corners F.hg F.co F.ha)
  ·rw [cV] at hd hM ⊢
   rw [cV,aP] at eW;have l1:(w++[e]).length=w.length+1:=ao;refine ifT (by cases w<;>rfl) ⟨rfl,rfl,O,sp e,by rw [eW];exact fS,?_⟩
   refine asgW ?_;refine nu_for (m:=nuM (fD (spm m) Ks) a a1 a2 (some (sp e)) x5 x6 x7) (V:=nuS a1 a2 D W.dropLast) ?_;refine AQ (r:=ways) (g:=sp) rfl (NuI P C a h (fD (spm m) Ks) a1 a2 e (DX C.length fs (w++[e]))) (fun d m τ j=>?_) (fun d c r m τ j CC hC=>nu_turn F L hM j CC hC) (d:=[]) (.mk fs w _ _ _ _ _ (hd.pop fun c z=>?_) (by unfold DX;rw [l1];exact lin [C.length+1 - fs.length,w.length] [] (.c (.A (.M 2 V0) V1) (.A (.M 2 V0) (.A V1 K1))) [] rfl) (fun Z z=>z) eF (by rw [eW];exact fT))
   ·cases j with
    | mk fs' T x5' x6' x7' F' W' y u _ U Y=>exact ⟨_,u,.mk fs' T _ _ _ _ _ _ y.done (aB (cK u) hM) U Y⟩
   ·refine X3pp z fun w l r hd Z=>?_
    exact aZ.mpr ⟨w,hd.way,hd.o.symm⟩
theorem IS:FnOk tNu c_lnumbers .new 7 6 HS:=by
 refine .specF fun u V K X h=>?_;obtain ⟨P,C,a,Ks,m,h,rfl,rfl,⟨F,L⟩,hK⟩:=h;have lK:=L.len F.few;refine ⟨rfl,Ar (by rw [Bj];exact lin [Ks.length] [] (.b V0 AE) [.b V0 K36] rfl lK),?_⟩
 rw [fD_sp];refine sortW.spots L.nd F.up L.mem (cW F.few (by decide)) ?_
 exact ⟨sp a,by refine X1p F.ne fun P' e=>?_;rw [e];rfl,nu_body F L fun fs a1 a2 m' nd hm=>⟨rfl,hK fs nd hm⟩⟩
inductive QfSame(avs:List AV)(V:LS)(K:KR):Prop
 | mk (v:_)(C:List Sp)(h:Sp->Int)(a:_)(fs:List Sp)(c0:avs=[v,.dict (fD (hN h a) fs)])(c1:(C.length<=100/\C.Nodup/\fs.Nodup/\∀k,k∈fs↔k∈C))(c2:((v=.dict (fD (hN h a) C)/\V=[])\/∃b,v=.loc b 0/\V=[.at b (.dict (fD (hN h a) C))]))(c3:K ⟨[],.val (.bool true)⟩ V):QfSame avs V K
noncomputable def fSame:FS:=specF fun avs V K Z=>QfSame avs V K
inductive SmJ(v:AV)(D:List (Af×AV))(fs:List Sp)(Ay:LS)(d r:List Sp):M->LS->Prop
 | mk (x:Option AV)(hr:∀k∈r,k∈fs):SmJ v D fs Ay d r [some v,some (.dict D),x] Ay
theorem same_ok:FnOk t0 Lz .val 1 0 fSame:=by
 refine .specF fun u V K X h=>?_;obtain ⟨v,C,h,a,fs,rfl,⟨hl,nC,nf,hm⟩,e,hK⟩:=h;have ll:=same_length nf nC hm;have e1:(fD (hN h a) C).length=C.length:=Bj _ _;have e2:(fD (hN h a) fs).length=fs.length:=Bj _ _;have b1:(fD (hN h a) C).length<=big:=Ar (by exact lin [C.length,(fD (hN h a) C).length] [] (.b V1 AE) [.b V0 Eb,.d V1 V0] rfl hl e1)
 have b2:(fD (hN h a) fs).length<=big:=Ar (by exact lin [C.length,fs.length,(fD (hN h a) fs).length] [] (.b V2 AE) [.b V0 Eb,.d V1 V0,.d V2 V1] rfl hl ll e2)
 have ne:(!(((fD (hN h a) C).length:Int) == ((fD (hN h a) fs).length:Int)))=false:=by rw [e1,e2,ll,beq_self_eq_true];rfl
 have nz:∀k,(!(h k - h a == h k - h a))=false:=fun k=>by rw [beq_self_eq_true];rfl
 rcases e with ⟨rfl,rfl⟩ | ⟨b,rfl,rfl⟩
 ·refine ⟨rfl,b1,b2,ifF ne ?_⟩
  refine AQ (g:=sp) (fD_sp _ _) (SmJ (.dict (fD (hN h a) C)) (fD (hN h a) fs) fs []) (fun d m τ j=>?_) (fun d k r m τ j CC hC=>?_) (d:=[]) (.mk _ fun Z z=>z)
  ·cases j with
   | mk x hr=>exact hK
  ·cases j with
   | mk x hr =>
    have kf:=hr k (.head _);have kC:=(hm k).mp kf;exact ⟨true,FK kC,_,Cs kC,_,Cs kC,_,Cs kf,ifF (nz k) (hC _ _ (.mk _ fun k z=>hr k (.tail _ z)))⟩
 ·refine ⟨rfl,rfl,rfl,b1,b2,ifF ne ?_⟩
  refine AQ (g:=sp) (fD_sp _ _) (SmJ (.loc b 0) (fD (hN h a) fs) fs [.at b (.dict (fD (hN h a) C))]) (fun d m τ j=>?_) (fun d k r m τ j CC hC=>?_) (d:=[]) (.mk _ fun Z z=>z)
  ·cases j with
   | mk x hr=>exact hK
  ·cases j with
   | mk x hr =>
    have kf:=hr k (.head _);have kC:=(hm k).mp kf;exact ⟨true,⟨rfl,FK kC⟩,rfl,_,Cs kC,rfl,_,Cs kC,_,Cs kf,ifF (nz k) (hC _ _ (.mk _ fun k z=>hr k (.tail _ z)))⟩
end
section
inductive LM(avs:List AV)(V:LS)(K:KR):Prop
 | mk (t:AV)(P:List Sp)(q:_)(c0:avs=[Bi t P,pcA q])(c1:V=[])(c2:(q.1∈P/\q.2∈P/\q.2∈A2 q.1))(c3:K ⟨[],.val (.bool true)⟩ []):LM avs V K
noncomputable def fPiece:FS:=specF fun avs V K Z=>LM avs V K
theorem piece_ok:FnOk ⟨true,[],[(34,Lb)],[(15,fHas)],[]⟩ EK .val 0 0 fPiece:=by
 refine .specF fun u V K X h=>?_;obtain ⟨t,P,q,rfl,rfl,⟨h1,h2,h3⟩,hK⟩:=h
 have:=InP.spots (A2 q.1) q.2
 rw [decide_eq_true h3] at this;exact ⟨rfl,Ar (cq rfl),⟨rfl,rfl⟩,⟨rfl,rfl⟩,t,P,q.1,true,rfl,rfl,decide_eq_true h1,⟨rfl,rfl⟩,⟨rfl,rfl⟩,t,P,q.2,true,rfl,rfl,decide_eq_true h2,true,this,hK⟩
inductive EQ(avs:List AV)(V:LS)(K:KR):Prop
 | mk (t:AV)(P:List Sp)(m:Sp->Sp)(b:_)(H:List (Sp×Sp))(c0:avs=[Bi t P,.loc b 0])(c1:V=[.at b (.list (H.map pcA))])(c2:(P.length<=36/\P.Nodup/\Mt P m/\Hand P m H))(c3:K ⟨[.dict (fD (spm m) (BX H))],.new 0⟩ [.at b (.list (H.map pcA))]):EQ avs V K
noncomputable def FU:FS:=specF fun avs V K Z=>EQ avs V K
noncomputable def paM(t:AV)(P:List Sp)(b f:Addr)(x3 x4 x5:Option AV):M:=[some (Bi t P),some (.loc b 0),some (.loc f 4),x3,x4,x5]
noncomputable def paS(b f:Addr)(L:List AV)(D:List (Af×AV)):LS:=[.at b (.list L),.no,.no,.no,.at f (.dict D)]
inductive PaJ(t:AV)(P:List Sp)(m:Sp->Sp)(b f:Addr)(H d r:List (Sp×Sp)):M->LS->Prop
 | mk (x3 x4 x5:Option AV)(D:List (Af×AV))(hd:d++r=H)(e:D=fD (spm m) (BX d)):PaJ t P m b f H d r (paM t P b f x3 x4 x5) (paS b f (H.map pcA) D)
noncomputable abbrev tPa:Tab:=⟨true,[],[(38,fPiece)],[(16,Le)],[]⟩
theorem Ln(d:List (Af×Af))(q:Af×Af):BX (d++[q])=BX d++[q.1,q.2]:=by
 unfold BX;rw [gh];rfl
theorem pa_turn{t:AV}{P:List Sp}{m0:Sp->Sp}{b f:Addr}{H d r:List (Sp×Sp)}{q:Sp×Sp}{m:M}{V:LS}{X:XL}{KK:KS}(hP:P.length<=36)(mt:Mt P m0)(hH:Hand P m0 H)(j:PaJ t P m0 b f H d (q::r) m V)(C:M->LS->Prop)(hC:∀As Ab,PaJ t P m0 b f H (d++[q]) r As Ab->C As Ab) :
  patW true (.v 3) (pcA q) m (fun Am=>wpSs tPa [.ite (.not (.call (.g 38) [(.v 0),(.v 3)])) [.raise (.call (.g 23) [(.str "no piece of the floor")])] [],.for_ (.tup [(.v 4),(.v 5)]) (.list [(.v 3),(.slice (.v 3) .none .none (.neg (.int 1)))]) [.ite (.cmp .In (.v 4) (.v 2)) [.raise (.call (.g 23) [(.str "a cell that is covered twice")])] [],.setitem (.v 2) (.v 4) (.v 5)]] X Am V (Ex (some 0) V C KK)):=by
 cases j with
 | mk x3 x4 x5 D hd e =>
  have hq:q∈H:=by rw [<- hd];exact aT _ (.head _)
  refine Ao (hH.at_ q hq) fun q1 q2=>?_;refine Ao (mt _ q1) fun n1 n2=>?_;rw [<- q2] at n1 n2;obtain ⟨_,n3,n4⟩:=nbP_mem.mp n1;have nd:=hH.nd;rw [<- hd,CL] at nd;have nd:(BX d++(q.1::q.2::BX r)).Nodup:=nd;have f1:q.1∉BX d:=fun z=>(bF.mp nd).2.2 _ z _ (.head _) rfl;have f2:q.2∉BX d++[q.1]:=fun z=>(aN.mp z).elim (fun z=>(bF.mp nd).2.2 _ z _ (.tail _ (.head _)) rfl) fun z=>(bz.mp (bF.mp nd).2.1).1 (by rw [<- aJ.mp z];exact .head _)
  have l1:(BX d).length<=36:=by
   have:=sub_length (l:=BX d) (k:=P) (bF.mp nd).1 fun k hk=>(hH.mem k).mp (by rw [<- hd,CL];exact aX _ hk)
   exact lin [P.length,(BX d).length] [] (.b V1 K36) [.b V0 K36,.b V1 V0] rfl hP this
  have s1:Bo D q.1 (sp q.2)=fD (spm m0) (BX d++[q.1]):=by rw [e];exact CJ f1 (by unfold spm;rw [q2])
  have s2:Bo (Bo D q.1 (sp q.2)) q.2 (sp q.1)=fD (spm m0) (BX (d++[q])):=by rw [s1,Ln,CJ f2 (by unfold spm;rw [n2]),aI];rfl
  refine ⟨t,P,q,rfl,rfl,⟨q1,n4,n3⟩,?_⟩;refine ⟨false,⟨rfl,by rw [e];exact (Ey _ _ _).trans (decide_eq_false f1)⟩,rfl,Ar (by rw [e,Bj];exact lin [(BX d).length] [] (.b V0 AE) [.b V0 K36] rfl l1),?_⟩
  refine ⟨false,⟨rfl,by rw [s1];exact (Ey _ _ _).trans (decide_eq_false f2)⟩,rfl,Ar (by rw [s1,Bj,ao];show _+1<=_;exact lin [(BX d).length] [] (.b (.A V0 K1) AE) [.b V0 K36] rfl l1),?_⟩
  exact ⟨rfl,hC _ _ (.mk _ _ _ _ (by rw [aI];exact hd) s2)⟩
theorem GC:FnOk tPa CR .new 4 4 FU:=by
 refine .specF fun u V K X h=>?_;obtain ⟨t,P,m,b,H,rfl,rfl,⟨hP,nP,M,hH⟩,hK⟩:=h;have ll:=same_length hH.nd nP hH.mem;refine ⟨rfl,rfl,fun f=>⟨rfl,?_⟩⟩;refine AQ (r:=H) (g:=pcA) rfl (PaJ t P m b f H) (fun d m' τ j=>?_) (fun d q r m' τ j C hC=>pa_turn hP M hH j C hC) (d:=[]) (.mk _ _ _ _ rfl rfl)
 cases j with
 | mk x3 x4 x5 D hd e =>
  rw [aM] at hd;clear hH;subst hd;subst e;refine ⟨rfl,Ar (by rw [Bj];exact lin [P.length,(BX d).length] [] (.b V1 AE) [.b V0 K36,.d V1 V0] rfl hP ll),⟨rfl,rfl⟩,⟨rfl,rfl⟩,t,P,rfl,by exact lin [P.length] [] (.b V0 AE) [.b V0 K36] rfl hP,rfl,Ar (by rw [aj];exact lin [P.length] [] (.b V0 AE) [.b V0 K36] rfl hP),ifF ?_ ⟨rfl,hK⟩⟩
  rw [Bj,aj,ll,beq_self_eq_true];rfl
noncomputable def wayS:Bool->Str
 | false => "right"
 | true => "down"
noncomputable def wayA(b:Bool):AV:=.str (wayS b)
noncomputable def goS:Sp×Bool->Sp
 | (c,false)=>(c.1+1,c.2)
 | (c,true)=>(c.1,c.2+1)
noncomputable def lfS:Sp×Bool->Sp
 | (c,false)=>(c.1,c.2 - 1)
 | (c,true)=>(c.1,c.2)
noncomputable def rtS:Sp×Bool->Sp
 | (c,false)=>(c.1,c.2)
 | (c,true)=>(c.1 - 1,c.2)
theorem lr_near(z:Sp×Bool):rtS z∈A2 (lfS z):=by
 obtain ⟨c,b⟩:=z
 cases b
 ·exact Bu DI
 ·exact DJ
theorem way_eq(b:Bool):EqP (wayA b) (.str "right") (!b):=by
 cases b
 ·exact .py ⟨_,_,rfl,rfl,by decide +kernel,by decide +kernel,by decide +kernel⟩
 ·exact .py ⟨_,_,rfl,rfl,by decide +kernel,by decide +kernel,by decide +kernel⟩
inductive LO(avs:List AV)(V:LS)(K:KR):Prop
 | mk (z:Sp×Bool)(c0:avs=[sp z.1,wayA z.2])(c1:V=[])(c2:K ⟨[],.val (.tup [sp (lfS z),sp (rtS z)])⟩ []):LO avs V K
noncomputable def fHands:FS:=specF fun avs V K Z=>LO avs V K
theorem hands_ok:FnOk t0 EL .val 2 0 fHands:=by
 refine .specF fun u V K X h=>?_;obtain ⟨⟨c,b⟩,rfl,rfl,hK⟩:=h
 cases b with
 | false=>exact ⟨rfl,true,way_eq false,hK⟩
 | true=>exact ⟨rfl,false,way_eq true,hK⟩
noncomputable def sdA(z:Sp×Bool):AV:=.tup [sp z.1,sp (goS z),sp (lfS z),sp (rtS z),.int (sg (lfS z))]
noncomputable def sdIn(P:List Sp)(z:Sp×Bool):Prop:=lfS z∈P\/rtS z∈P
structure Jf(P C:List Sp)(S:List (Sp×Bool)):Prop where
 mem:∀z,z∈S↔z.1∈C/\sdIn P z
 few:S.length<=2 * C.length
inductive LL(avs:List AV)(V:LS)(K:KR):Prop
 | mk (t:AV)(P:List Sp)(C:List Sp)(c0:avs=[Bi t P])(c1:V=[])(c2:(P.length<=36/\Cor P C))(c3:∀S,Jf P C S->K ⟨[.list (S.map sdA)],.new 0⟩ []):LL avs V K
noncomputable def fSides:FS:=specF fun avs V K Z=>LL avs V K
noncomputable def siM(t:AV)(P:List Sp)(f:Addr)(x2 x3 x4 x5 x6 x7:Option AV):M:=[some (Bi t P),some (.loc f 4),x2,x3,x4,x5,x6,x7]
noncomputable def siS(f:Addr)(L:List AV):LS:=[.no,.no,.no,.no,.at f (.list L)]
noncomputable abbrev tSi:Tab:=⟨true,[],[(44,fHands),(33,fDark)],[(15,fHas),(18,Fb)],[]⟩
inductive SiI(t:AV)(P:List Sp)(f:Addr)(d:List Sp)(c:Sp)(e r:List Bool):M->LS->Prop
 | mk (x3 x4 x5 x6 x7:Option AV)(L:List AV)(S:List (Sp×Bool))(mem:∀z,z∈S↔(z.1∈d\/z.1=c/\z.2∈e)/\sdIn P z)(few:S.length<=2 * d.length+e.length)(eL:L=S.map sdA):SiI t P f d c e r (siM t P f (some (sp c)) x3 x4 x5 x6 x7) (siS f L)
inductive SiJ(t:AV)(P:List Sp)(f:Addr)(d r:List Sp):M->LS->Prop
 | mk (x2 x3 x4 x5 x6 x7:Option AV)(L:List AV)(S:List (Sp×Bool))(mem:∀z,z∈S↔z.1∈d/\sdIn P z)(few:S.length<=2 * d.length)(eL:L=S.map sdA):SiJ t P f d r (siM t P f x2 x3 x4 x5 x6 x7) (siS f L)
noncomputable def wgA(c:Sp)(b:Bool):AV:=.tup [wayA b,sp (goS (c,b))]
theorem si_turn{t:AV}{P:List Sp}{f:Addr}{d:List Sp}{c:Sp}{e r:List Bool}{b:Bool}{m:M}{V:LS}{X:XL}{KK:KS}(hd:d.length<=64)(he:e.length<=2)(j:SiI t P f d c e (b::r) m V)(C:M->LS->Prop)(hC:∀As Ab,SiI t P f d c (e++[b]) r As Ab->C As Ab) :
  patW true (.tup [(.v 3),(.v 4)]) (wgA c b) m (fun Am=>wpSs tSi [.assign (.tup [(.v 5),(.v 6)]) (.call (.g 44) [(.v 2),(.v 3)]),.ite (.or [(.meth (.v 0) 15 [(.v 5)]),(.meth (.v 0) 15 [(.v 6)])]) [.assign (.v 7) (.or [(.and [(.meth (.v 0) 15 [(.v 5)]),(.call (.g 33) [(.v 5)])]),(.and [(.meth (.v 0) 15 [(.v 6)]),(.not (.call (.g 33) [(.v 6)]))])]),.expr (.meth (.v 1) 0 [(.tup [(.v 2),(.v 4),(.v 5),(.v 6),(.ite (.v 7) (.int 1) (.neg (.int 1)))])])] []] X Am V (Ex aa V C KK)):=by
 cases j with
 | mk x3 x4 x5 x6 x7 L S mem few eL =>
  have lb:L.length<=big:=Ar (by rw [eL,aj];exact lin [d.length,e.length,S.length] [] (.b V2 AE) [.B 2 V0 K64,.b V1 K2,.b V2 (.A (.M 2 V0) V1)] rfl hd he few)
  have dl:dark (lfS (c,b))=!dark (rtS (c,b)):=by rw [BW (lr_near (c,b))];exact (Bool.not_not _).symm
  have put:sdIn P (c,b)->∀x7,C (siM t P f (some (sp c)) (some (wayA b)) (some (sp (goS (c,b)))) (some (sp (lfS (c,b)))) (some (sp (rtS (c,b)))) x7) (siS f (L++[sdA (c,b)])):=fun q x7=>by
   refine hC _ _ (.mk _ _ _ _ _ _ (S++[(c,b)]) (fun z=>?_) (by rw [ao,ao];show _+1<=_+(_+1);exact lin [S.length,d.length,e.length] [] (.b (.A V0 K1) (.A (.M 2 V1) (.A V2 K1))) [.b V0 (.A (.M 2 V1) V2)] rfl few) (by rw [eL,aP];rfl))
   rw [aN,aN,mem z,aJ,aJ]
   constructor
   ·rintro (⟨w | w,h⟩ | rfl)
    ·exact ⟨.inl w,h⟩
    ·exact ⟨.inr ⟨w.1,.inl w.2⟩,h⟩
    ·exact ⟨.inr ⟨rfl,.inr rfl⟩,q⟩
   ·rintro ⟨w | ⟨w,w' | w'⟩,h⟩
    ·exact .inl ⟨.inl w,h⟩
    ·exact .inl ⟨.inr ⟨w,w'⟩,h⟩
    ·exact .inr (bH w w')
  have app:sdIn P (c,b)->wpSs tSi [.expr (.meth (.v 1) 0 [(.tup [(.v 2),(.v 4),(.v 5),(.v 6),(.ite (.v 7) (.int 1) (.neg (.int 1)))])])] X (siM t P f (some (sp c)) (some (wayA b)) (some (sp (goS (c,b)))) (some (sp (lfS (c,b)))) (some (sp (rtS (c,b)))) (some (.bool (dark (lfS (c,b)))))) (siS f L) (Ex aa (siS f L) C KK):=fun q=>by
   have:=put q (some (.bool (dark (lfS (c,b)))))
   unfold sdA sg at this;generalize dark (lfS (c,b))=dk at this ⊢
   cases dk with
   | true=>exact ⟨rfl,rfl,lb,this⟩
   | false=>exact ⟨rfl,rfl,lb,this⟩
  by_cases q:lfS (c,b)∈P
  ·have a:=app (.inl q)
   cases e:dark (lfS (c,b)) with
   | true =>
    rw [e] at a;exact ⟨(c,b),rfl,rfl,⟨rfl,rfl⟩,⟨rfl,rfl⟩,t,P,lfS (c,b),true,rfl,rfl,decide_eq_true q,⟨rfl,rfl⟩,⟨rfl,rfl⟩,t,P,lfS (c,b),true,rfl,rfl,decide_eq_true q,ifT e a⟩
   | false =>
    have a':=a;rw [dl] at a';rw [e] at a;refine ⟨(c,b),rfl,rfl,⟨rfl,rfl⟩,⟨rfl,rfl⟩,t,P,lfS (c,b),true,rfl,rfl,decide_eq_true q,⟨rfl,rfl⟩,⟨rfl,rfl⟩,t,P,lfS (c,b),true,rfl,rfl,decide_eq_true q,ifF e ⟨⟨rfl,rfl⟩,⟨rfl,rfl⟩,t,P,rtS (c,b),decide (rtS (c,b)∈P),rfl,rfl,rfl,?_⟩⟩;exact ifB (fun Z=>a') fun Z=>a
  ·by_cases q':rtS (c,b)∈P
   ·have a:=app (.inr q')
    rw [dl] at a;exact ⟨(c,b),rfl,rfl,⟨rfl,rfl⟩,⟨rfl,rfl⟩,t,P,lfS (c,b),false,rfl,rfl,decide_eq_false q,⟨rfl,rfl⟩,⟨rfl,rfl⟩,t,P,rtS (c,b),true,rfl,rfl,decide_eq_true q',⟨rfl,rfl⟩,⟨rfl,rfl⟩,t,P,lfS (c,b),false,rfl,rfl,decide_eq_false q,⟨rfl,rfl⟩,⟨rfl,rfl⟩,t,P,rtS (c,b),true,rfl,rfl,decide_eq_true q',a⟩
   ·refine ⟨(c,b),rfl,rfl,⟨rfl,rfl⟩,⟨rfl,rfl⟩,t,P,lfS (c,b),false,rfl,rfl,decide_eq_false q,⟨rfl,rfl⟩,⟨rfl,rfl⟩,t,P,rtS (c,b),false,rfl,rfl,decide_eq_false q',hC _ _ (.mk _ _ _ _ _ _ S (fun z=>?_) (by rw [ao];exact lin [S.length,d.length,e.length,[b].length] [] (.b V0 (.A (.M 2 V1) (.A V2 V3))) [.b V0 (.A (.M 2 V1) V2)] rfl few) eL)⟩
    rw [mem z,aN,aJ]
    constructor
    ·exact fun h=>⟨h.1.imp id fun w=>⟨w.1,.inl w.2⟩,h.2⟩
    ·rintro ⟨w | ⟨w,w' | w'⟩,h⟩
     ·exact ⟨.inl w,h⟩
     ·exact ⟨.inr ⟨w,w'⟩,h⟩
     ·rw [show z=(c,b) from bH w w'] at h
      exact (h.elim q q').elim
theorem sides_ok:FnOk tSi EG .new 7 5 fSides:=by
 refine .specF fun O V K X h=>?_;obtain ⟨t,P,C,rfl,rfl,⟨hP,hC⟩,hK⟩:=h;have u:=hC.few;refine ⟨rfl,fun f=>⟨⟨rfl,rfl⟩,⟨rfl,rfl⟩,t,P,C,rfl,rfl,by exact lin [P.length] [] (.b V0 Eb) [.b V0 K36] rfl hP,hC,?_⟩⟩
 refine AQ (r:=C) (g:=sp) rfl (fun d r m V=>d++r=C/\SiJ t P f d r m V) (fun d m τ j=>?_) (fun d c r m τ j CC U=>?_) (d:=[]) ⟨rfl,.mk _ _ _ _ _ _ [] [] (fun z=>⟨fun q=>(by cases q),fun q=>(by cases q.1)⟩) (cI _) rfl⟩
 ·obtain ⟨hd,j⟩:=j
  rw [aM] at hd;clear hC u;subst hd
  cases j with
  | mk x2 x3 x4 x5 x6 x7 L S mem few eL=>subst eL;exact ⟨rfl,hK S ⟨mem,few⟩⟩
 ·obtain ⟨hd,j⟩:=j
  have ld:=CB hd
  cases j with
  | mk x2 x3 x4 x5 x6 x7 L S mem few eL =>
   refine AQ (r:=[false,true]) (g:=wgA c) rfl (fun e r m V=>e++r=[false,true]/\SiI t P f d c e r m V) (fun e m τ j=>?_) (fun e b r m τ j C2 T=>?_) (d:=[]) ⟨rfl,.mk _ _ _ _ _ L S (fun z=>(mem z).trans (and_congr_left fun Z=>⟨.inl,fun q=>q.elim id fun q=>by cases q.2⟩)) few eL⟩
   ·refine Ao j fun he j=>?_
    rw [aM] at he;subst he
    cases j with
    | mk x3 x4 x5 x6 x7 L S mem few eL =>
     refine U _ _ ⟨by rw [aI];exact hd,.mk _ _ _ _ _ _ L S (fun z=>(mem z).trans (and_congr_left fun Z=>?_)) (by rw [ao];exact few) eL⟩
     rw [aN,aJ];exact or_congr Iff.rfl ⟨(·.1),fun q=>⟨q,by cases z.2;exact .head _;exact .tail _ (.head _)⟩⟩
   ·refine Ao j fun he j=>?_
    have le:=CB he;exact si_turn (by exact lin [C.length,d.length] [] (.b V1 K64) [.c V0 K64,.c V1 V0] rfl u ld) (cK le) j C2 fun As Ab h=>T _ _ ⟨by rw [aI];exact he,h⟩
end
section
theorem Eg.side{P:List Sp}{k c:Sp}(e:Eg P k c):(∃b,c=goS (k,b)/\sdIn P (k,b))\/∃b,k=goS (c,b)/\sdIn P (c,b):=by
 refine X3pp e fun w l r hd q=>?_;obtain ⟨x,y⟩:=k
 cases hd with
 | r=>exact .inl ⟨false,rfl,q⟩
 | d=>exact .inl ⟨true,rfl,q⟩
 | l=>exact .inr ⟨false,bH (bj ..).symm rfl,q.symm⟩
 | u=>exact .inr ⟨true,bH rfl (bj ..).symm,q.symm⟩
theorem JE{P:List Sp}{z:Sp×Bool}(q:sdIn P z):Eg P z.1 (goS z)/\Eg P (goS z) z.1:=by
 obtain ⟨⟨x,y⟩,b⟩:=z
 cases b with
 | false =>
  have:=Hd.l (x:=x+1) (y:=y)
  rw [bI] at this;exact ⟨⟨_,_,_,.r,q⟩,_,_,_,this,q.symm⟩
 | true =>
  have:=Hd.u (x:=x) (y:=y+1)
  rw [bI] at this;exact ⟨⟨_,_,_,.d,q⟩,_,_,_,this,q.symm⟩
theorem JD{P:List Sp}{m:Sp->Sp}{h:Sp->Int}(H:HT P m h){z:Sp×Bool}(q:sdIn P z):h (goS z) - h z.1=stp P m (lfS z) (rtS z):=by
 obtain ⟨⟨x,y⟩,b⟩:=z
 cases b with
 | false=>exact H.r x y q
 | true=>exact H.d x y q
theorem Lq{P C:List Sp}(hC:Cor P C){k:Sp}(h:k∈C):∃g,Eg P k g:=by
 refine X1pp ((hC.mem k).mp h) fun c hc hk=>?_;obtain ⟨x,y⟩:=c;unfold Bm at hk;simp only [aD,bn,or_false] at hk
 rcases hk with rfl | rfl | rfl | rfl
 ·exact ⟨_,_,_,_,.r,.inr hc⟩
 ·exact ⟨_,_,_,_,.d,.inr (by dsimp only;rw [bI];exact hc)⟩
 ·exact ⟨_,_,_,_,.r,.inl (by dsimp only;rw [bI];exact hc)⟩
 ·exact ⟨_,_,_,_,.l,.inr (by dsimp only;rw [bI,bI];exact hc)⟩
noncomputable abbrev Cb:=Sp×Addr×List Sp
noncomputable def enA(h:Sp->Int)(k g:Sp):AV:=.tup [sp g,.int (h g - h k)]
noncomputable def enD:Nat->List Cb->List (Af×AV)
 | _,[]=>[]
 | i,e::r=>(e.1,.loc e.2.1 (i+8))::enD (i+1) r
noncomputable def enS(h:Sp->Int)(e:Cb):Slot:=.at e.2.1 (.list (e.2.2.map (enA h e.1)))
noncomputable def hbT(h:Sp->Int)(es:List Cb):LS:=es.map (enS h)++be (64 - es.length) .no
noncomputable def hbS(a1:Addr)(s5 s6 s7:Slot)(D:List (Af×AV))(T:LS):LS:=.no::.no::.no::.no::.at a1 (.dict D)::s5::s6::s7::T
noncomputable def Has(es:List Cb)(k g:Sp):Prop:=∃e∈es,e.1=k/\g∈e.2.2
theorem Lh:∀(es:List Cb)(i:Nat),(enD i es).length=es.length
 | [],_=>rfl
 | _::r,i=>congrArg (·+1) (Lh r (i+1))
theorem Fg:∀(e1 e2:List Cb)(i:Nat),enD i (e1++e2)=enD i e1++enD (i+e1.length) e2
 | [],_,_=>rfl
 | e::r,e2,i=>by
  show _::enD (i+1) (r++e2)=_::(enD (i+1) r++enD (i+(r.length+1)) e2);rw [Fg r e2 (i+1),Nat.add_assoc,iA 1]
theorem DV(p:Af×AV)(l:List (Af×AV))(k:Af):Bq (p::l) k=if p.1=k then some p.2 else Bq l k:=by
 unfold Bq
 by_cases e:p.1=k
 ·rw [if_pos e,List.find?_cons_of_pos (p:=fun z:Af×AV=>decide (z.1=k)) (decide_eq_true e)];rfl
 ·rw [if_neg e,List.find?_cons_of_neg (p:=fun z:Af×AV=>decide (z.1=k)) fun z=>e (of_decide_eq_true z)]
theorem HY{k:Sp}:∀{es:List Cb}{i:Nat},(∀e∈es,e.1≠k)->Bq (enD i es) k=aa
 | [],_,_=>rfl
 | e::r,i,h=>(DV _ _ _).trans ((if_neg (h e (.head _))).trans (HY fun e he=>h e (.tail _ he)))
theorem Ff{k:Sp}{b:Addr}{gs:List Sp}{e2:List Cb}:∀{e1:List Cb}{i:Nat},(∀e∈e1,e.1≠k)->Bq (enD i (e1++(k,b,gs)::e2)) k=some (.loc b (i+e1.length+8))
 | [],i,_=>(DV _ _ _).trans (if_pos rfl)
 | e::r,i,h=>by
  refine (DV _ _ _).trans ((if_neg (h e (.head _))).trans ?_);rw [List.append_eq,Ff fun e he=>h e (.tail _ he),aL,Nat.add_assoc i,iA 1]
structure Pt(es:List Cb)(k g:Sp)(es':List Cb):Prop where
 nd:(es.map (·.1)).Nodup->(es'.map (·.1)).Nodup
 keys:∀e'∈es',e'.1=k\/∃e∈es,e.1=e'.1
 mem:∀e'∈es',∀g'∈e'.2.2,(e'.1=k/\g'=g)\/Has es e'.1 g'
 has:Has es' k g
 old:∀k g,Has es k g->Has es' k g
 len:∀n,(∀e∈es,e.2.2.length<=n)->∀e'∈es',e'.2.2.length<=n+1
theorem Pt.in{e1 e2:List Cb}{k g:Sp}{b:Addr}{gs:List Sp}:Pt (e1++(k,b,gs)::e2) k g (e1++(k,b,gs++[g])::e2):=by
 have mv:∀e'∈e1++(k,b,gs++[g])::e2,e'=(k,b,gs++[g])\/e'∈e1++(k,b,gs)::e2:=fun e' h=>by
  rcases aN.mp h with h | h
  ·exact .inr (aX _ h)
  ·exact (aD.mp h).imp id fun h=>aT _ (.tail _ h)
 have me:(k,b,gs)∈e1++(k,b,gs)::e2:=aT _ (.head _);have T:(k,b,gs++[g])∈e1++(k,b,gs++[g])::e2:=aT _ (.head _);refine ⟨fun h=>?_,fun e' h=>?_,fun e' h g' hg=>?_,⟨_,T,rfl,aT _ (.head _)⟩,fun k' g' ⟨e,he,e1',e2'⟩=>?_,fun n hn e' h=>?_⟩
 ·rw [aP,bm] at h ⊢;exact h
 ·rcases mv e' h with rfl | h
  ·exact .inl rfl
  ·exact .inr ⟨e',h,rfl⟩
 ·rcases mv e' h with rfl | h
  ·rcases aN.mp hg with hg | hg
   ·exact .inr ⟨_,me,rfl,hg⟩
   ·exact .inl ⟨rfl,aJ.mp hg⟩
  ·exact .inr ⟨e',h,rfl,hg⟩
 ·rcases aN.mp he with h | h
  ·exact ⟨e,aX _ h,e1',e2'⟩
  ·rcases aD.mp h with rfl | h
   ·exact ⟨_,T,e1',aX _ e2'⟩
   ·exact ⟨e,aT _ (.tail _ h),e1',e2'⟩
 ·rcases mv e' h with rfl | h
  ·have:=hn _ me
   show (gs++[g]).length<=_;rw [ao];exact ie this
  ·exact dG (hn e' h)
theorem Pt.new{es:List Cb}{k g:Sp}{b:Addr}(hk:∀e∈es,e.1≠k):Pt es k g (es++[(k,b,[g])]):=by
 have mv:∀e'∈es++[(k,b,[g])],e'=(k,b,[g])\/e'∈es:=fun e' h=>(aN.mp h).elim .inr fun h=>.inl (aJ.mp h);have me:(k,b,[g])∈es++[(k,b,[g])]:=aT _ (.head _);refine ⟨fun h=>?_,fun e' h=>?_,fun e' h g' hg=>?_,⟨_,me,rfl,.head _⟩,fun k' g' ⟨e,he,h⟩=>⟨e,aX _ he,h⟩,fun n hn e' h=>?_⟩
 ·rw [aP]
  refine En h fun z=>?_;refine X1pp (aZ.mp z) fun e he q=>?_;exact hk e he q
 ·rcases mv e' h with rfl | h
  ·exact .inl rfl
  ·exact .inr ⟨e',h,rfl⟩
 ·rcases mv e' h with rfl | h
  ·exact .inl ⟨rfl,aJ.mp hg⟩
  ·exact .inr ⟨e',h,rfl,hg⟩
 ·rcases mv e' h with rfl | h
  ·exact ie (cI n)
  ·exact dG (hn e' h)
theorem slotL.at{V:LS}{a:Addr}{i:Nat}{l:List AV}{K:Addr->Nat->List AV->Prop}(e:slot V i=.at a (.list l))(h:K a i l):slotL V (.loc a i) K:=by
 unfold slotL;simp only [e];exact ⟨trivial,h⟩
theorem Kz{h:Sp->Int}{e1 e2:List Cb}{e:Cb}:slot (hbT h (e1++e::e2)) e1.length=enS h e:=by
 unfold slot hbT;rw [az,aP,bm,aI,bf (by rw [aj];exact ay _),aj,fj]
 rfl
theorem hbT_set{h:Sp->Int}{e1 e2:List Cb}{e e':Cb}:(hbT h (e1++e::e2)).set e1.length (enS h e')=hbT h (e1++e'::e2):=by
 unfold hbT;rw [aP,bm,aI,List.set_append_right _ _ (by rw [aj];exact ay _),aj,fj,aP,bm,aI,ao,ao]
 rfl
theorem Ky{h:Sp->Int}{es:List Cb}{e:Cb}(hl:es.length<64):(hbT h es).set es.length (enS h e)=hbT h (es++[e]):=by
 unfold hbT;rw [List.set_append_right _ _ (by rw [aj];exact ay _),aj,fj,aP,aI,ao,show 64 - es.length=(64 - (es.length+1))+1 by exact aw (lin [es.length,64 - (es.length+1),64 - es.length] [] (.b V2 (.A V1 K1)) [.b K64 (.A (.A V0 K1) V1),.d (.A V2 V0) K64] rfl (aq.mp (ay ((64) - (es.length+1)))) (an (lin [es.length] [] (.b V0 K64) [.c V0 K64] rfl hl))) (lin [es.length,64 - es.length,64 - (es.length+1)] [] (.b (.A V2 K1) V1) [.b K64 (.A V0 V1),.d (.A V2 (.A V0 K1)) K64] rfl (aq.mp (ay ((64) - (es.length)))) (an (lin [es.length] [] (.b (.A V0 K1) K64) [.c V0 K64] rfl hl))),gg]
 rfl
theorem LI{V:LS}{a:Addr}{i:Nat}{l:List AV}{x:AV}{K:KV}(e:slot V i=.at a (.list l))(hl:l.length<=big)(h:K .none (V.set i (.at a (.list (l++[x]))))):methW 0 (.loc a i) [x] V K:=slotL.at (K:=fun ad i l=>l.length<=big/\K .none (V.set i (.at ad (.list (l++[x]))))) e ⟨hl,h⟩
theorem Hl{Φ:Tab}{X:XL}{m:M}{V:LS}{K:List AV->LS->Prop}(h:K [] V):Gn (wpL Φ [] X) m V K:=h
theorem E4{e1 e2:List Cb}{e0:Cb}(nd:((e1++e0::e2).map (·.1)).Nodup)(e:Cb)(he:e∈e1)(z:e.1=e0.1):False:=by
 rw [aP,bm] at nd;exact (bF.mp nd).2.2 _ (cD he) _ (.head _) z
set_option tactic.hygienic true in
theorem put_ok{Φ:Tab}{X:XL}{x0 x1:Option AV}{mr:M}{a1:Addr}{s5 s6 s7:Slot}{h:Sp->Int}{es:List Cb}{k g:Sp}{ek ex:E}{K:KS}{n:Nat}(hn:n<=900)
  (hk:∀(V:LS)(K:KV),K (sp k) V->(wp Φ ek X).v aa (x0::x1::some (.loc a1 4)::mr) V K) (hx:∀(V:LS)(K:KV),K (enA h k g) V->(wp Φ ex X).v aa (x0::x1::some (.loc a1 4)::mr) V K)
  (nd:(es.map (·.1)).Nodup) (hl:(∀e∈es,e.1≠k)->es.length<64) (h9:es.length<=900) (hg:∀e∈es,e.2.2.length<=n)
  (hK:∀es',Pt es k g es'->K .next (x0::x1::some (.loc a1 4)::mr) (hbS a1 s5 s6 s7 (enD 0 es') (hbT h es'))) :
  wpS Φ (.expr (.meth (.meth (.v 2) 7 [ek,.list []]) 0 [ex])) X (x0::x1::some (.loc a1 4)::mr) (hbS a1 s5 s6 s7 (enD 0 es) (hbT h es)) K:=by
 have lb:(enD 0 es).length<=big:=Ar (by rw [Lh];exact lin [es.length] [] (.b V0 AE) [.b V0 Gk] rfl h9)
 by_cases q:∃e∈es,e.1=k
 ·obtain ⟨⟨k',b,gs⟩,he,rfl⟩:=q
  refine X2p (List.append_of_mem he) fun e1 e2 Z0=>?_;clear h9 hl;subst Z0;have g1:=Ff (i:=0) (e2:=e2) (b:=b) (gs:=gs) fun e he z=>E4 nd e he z;rw [gl] at g1;have hs:slot (hbS a1 s5 s6 s7 (enD 0 (e1++(k',b,gs)::e2)) (hbT h (e1++(k',b,gs)::e2))) (e1.length+8)=.at b (.list (gs.map (enA h k'))):=Kz;refine ⟨rfl,hk _ _ ⟨aa,rfl,lb,?_⟩⟩;generalize hq:Bq (enD 0 (e1++(k',b,gs)::e2)) _=o;obtain rfl:=hq.symm.trans g1;show slotL (hbS a1 s5 s6 s7 (enD 0 (e1++(k',b,gs)::e2)) (hbT h (e1++(k',b,gs)::e2))) (.loc b (e1.length+8)) (fun Z Z Z=>Gn (wpL Φ [ex] X) (x0::x1::some (.loc a1 4)::mr) (hbS a1 s5 s6 s7 (enD 0 (e1++(k',b,gs)::e2)) (hbT h (e1++(k',b,gs)::e2))) _);refine slotL.at hs (hx _ _ ?_);refine Hl ?_;refine LI hs (Ar (by rw [aj];exact aB (hg _ he) (by exact lin [n] [] (.b V0 AE) [.b V0 Gk] rfl hn))) ?_
  have:=hK _ (Pt.in (g:=g))
  rw [<- hbT_set (e:=(k',b,gs)),show enD 0 (e1++(k',b,gs++[g])::e2)=enD 0 (e1++(k',b,gs)::e2) by rw [Fg,Fg];rfl] at this
  unfold enS at this;rw [aP] at this;exact this
 ·have q':∀e∈es,e.1≠k:=fun e he z=>q ⟨e,he,z⟩
  have hl:=hl q';have g1:=HY (i:=0) q';refine ⟨rfl,hk _ _ ⟨some (es.length+8),fun b=>⟨rfl,lb,?_⟩⟩⟩;have hs:slot (hbS a1 s5 s6 s7 (Bo (enD 0 es) k (.loc b (es.length+8))) ((hbT h es).set es.length (.at b (.list [])))) (es.length+8)=.at b (.list []):=by
   show slot ((hbT h es).set es.length (enS h (k,b,[]))) es.length=_;rw [Ky hl];exact Kz (e2:=[])
  generalize hq:Bq (enD 0 es) _=o;obtain rfl:=hq.symm.trans g1;show slotL (hbS a1 s5 s6 s7 (Bo (enD 0 es) k (.loc b (es.length+8))) ((hbT h es).set es.length (.at b (.list [])))) (.loc b (es.length+8)) (fun Z Z Z=>Gn (wpL Φ [ex] X) (x0::x1::some (.loc a1 4)::mr) (hbS a1 s5 s6 s7 (Bo (enD 0 es) k (.loc b (es.length+8))) ((hbT h es).set es.length (.at b (.list [])))) _);refine slotL.at hs (hx _ _ ?_);refine Hl ?_;refine LI hs (Ar (cI _)) ?_
  have:=hK _ (Pt.new (g:=g) (b:=b) q')
  rw [<- Ky hl,show enD 0 (es++[(k,b,[g])])=Bo (enD 0 es) k (.loc b (es.length+8)) by
   rw [Fg,gl];unfold Bo;rw [g1];rfl] at this
  show K .next _ (hbS a1 s5 s6 s7 (Bo (enD 0 es) k (.loc b (es.length+8))) (((hbT h es).set es.length (.at b (.list []))).set es.length (enS h (k,b,[g]))));rw [List.set_set];exact this
structure Ents(P C:List Sp)(es:List Cb)(d:List (Sp×Bool)):Prop where
 nd:(es.map (·.1)).Nodup
 inC:∀e∈es,e.1∈C
 eg:∀e∈es,∀g∈e.2.2,Eg P e.1 g
 has:∀z∈d,Has es z.1 (goS z)/\Has es (goS z) z.1
 len:∀e∈es,e.2.2.length<=2 * d.length
theorem Ents.put{P C:List Sp}{es e1 e2:List Cb}{d:List (Sp×Bool)}{z:Sp×Bool}(E:Ents P C es d)(hC:Cor P C)(q:sdIn P z)(p1:Pt es z.1 (goS z) e1)(p2:Pt e1 (goS z) z.1 e2):Ents P C e2 (d++[z]):=by
 refine Ao (JE q) fun g1 g2=>?_;have key:∀e∈e2,e.1∈C:=fun e he=>by
  rcases p2.keys e he with w | ⟨f,hf,w⟩
  ·rw [w];exact g1.in hC
  ·rcases p1.keys f hf with v | ⟨f',Y,v⟩
   ·rw [<- w,v];exact g2.in hC
   ·rw [<- w,<- v];exact E.inC f' Y
 refine ⟨p2.nd (p1.nd E.nd),key,fun e he g hg=>?_,fun y hy=>?_,fun e he=>?_⟩
 ·rcases p2.mem e he g hg with ⟨w,rfl⟩ | ⟨f,hf,w,hg⟩
  ·rw [w];exact g2
  ·rcases p1.mem f hf g hg with ⟨v,rfl⟩ | ⟨f',Y,v,hg⟩
   ·rw [<- w,v];exact g1
   ·rw [<- w,<- v];exact E.eg f' Y g hg
 ·rcases aN.mp hy with hy | hy
  ·exact ⟨p2.old _ _ (p1.old _ _ (E.has y hy).1),p2.old _ _ (p1.old _ _ (E.has y hy).2)⟩
  ·rw [aJ.mp hy];exact ⟨p2.old _ _ p1.has,p2.has⟩
 ·have:=p2.len _ (p1.len _ E.len) e he
  rw [ao];exact this
theorem Ents.few{P C:List Sp}{es:List Cb}{d:List (Sp×Bool)}(E:Ents P C es d):es.length<=C.length:=by
 have:=sub_length (k:=C) E.nd fun x hx=>by
  refine X1pp (aZ.mp hx) fun e he Z0=>?_;clear hx;subst Z0;exact E.inC e he
 rwa [aj] at this
theorem Hz{C:List Sp}{es:List Cb}{k:Sp}(nd:(es.map (·.1)).Nodup)(y:∀e∈es,e.1∈C)(hk:k∈C)(h:∀e∈es,e.1≠k):es.length<C.length:=by
 have:=sub_length (l:=k::es.map (·.1)) (k:=C) (bz.mpr ⟨fun z=>by refine X1pp (aZ.mp z) fun e he q=>?_;exact h e he q,nd⟩) fun x hx=>by
  rcases aD.mp hx with rfl | hx
  ·exact hk
  ·refine X1pp (aZ.mp hx) fun e he Z0=>?_
   clear hx;subst Z0;exact y e he
 rwa [aL,aj] at this
theorem Ents.all{P C:List Sp}{es:List Cb}{S:List (Sp×Bool)}(E:Ents P C es S)(hS:Jf P C S)(hC:Cor P C){k g:Sp}(hk:k∈C)(e:Eg P k g):Has es k g:=by
 rcases e.side with ⟨b,rfl,q⟩ | ⟨b,rfl,q⟩
 ·exact (E.has (k,b) ((hS.mem _).mpr ⟨hk,q⟩)).1
 ·exact (E.has (g,b) ((hS.mem _).mpr ⟨e.in hC,q⟩)).2
end
section
inductive LQ(avs:List AV)(V:LS)(K:KR):Prop
 | mk (t:AV)(P:List Sp)(C:List Sp)(a:_)(c0:avs=[Bi t P])(c1:V=[])(c2:Flr P C a)(c3:K ⟨[],.val (sp a)⟩ []):LQ avs V K
noncomputable def fFirst:FS:=specF fun avs V K Z=>LQ avs V K
theorem KQ:FnOk ⟨true,[],[],[(16,Le)],[]⟩ Cj .val 0 0 fFirst:=by
 refine .specF fun u V K X h=>?_;obtain ⟨t,P,C,a,rfl,rfl,F,hK⟩:=h
 have:=F.few
 exact ⟨rfl,⟨rfl,rfl⟩,⟨rfl,rfl⟩,t,P,rfl,by exact lin [P.length] [] (.b V0 AE) [.b V0 K36] rfl this,rfl,sp a,by refine X1p F.ne fun P' e=>?_;rw [e];rfl,hK⟩
inductive QfHby(avs:List AV)(V:LS)(K:KR):Prop
 | mk (t:AV)(P:List Sp)(C:List Sp)(a:_)(Q:List Sp)(m:Sp->Sp)(h:Sp->Int)(c0:avs=[Bi t P,.dict (fD (spm m) Q)])(c1:V=[])(c2:(Flr P C a/\HT P m h/\∀k∈P,k∈Q))(c3:K ⟨[.dict (fD (hN h a) C)],.new 0⟩ []):QfHby avs V K
noncomputable def fHby:FS:=specF fun avs V K Z=>QfHby avs V K
noncomputable abbrev tHb:Tab:=⟨true,[],[(45,fSides),(46,fFirst)],[(15,fHas),(18,Fb)],[]⟩
noncomputable def hbM(t:AV)(P:List Sp)(D0:List (Af×AV))(a1:Addr)(x3 x4 x5 x6 x7 x8 x9 x10 x11:Option AV):M:=some (Bi t P)::some (.dict D0)::some (.loc a1 4)::[x3,x4,x5,x6,x7,x8,x9,x10,x11]
inductive HbJ(t:AV)(P C:List Sp)(h:Sp->Int)(D0:List (Af×AV))(a1:Addr)(S d r:List (Sp×Bool)):M->LS->Prop
 | mk (x3 x4 x5 x6 x7 x8:Option AV)(es:List Cb)(hd:d++r=S)(E:Ents P C es d):HbJ t P C h D0 a1 S d r (hbM t P D0 a1 x3 x4 x5 x6 x7 x8 aa aa aa) (hbS a1 .no .no .no (enD 0 es) (hbT h es))
theorem hb_puts{t:AV}{P C Q:List Sp}{a:Sp}{m0:Sp->Sp}{h:Sp->Int}{a1:Addr}{S d r:List (Sp×Bool)}{z:Sp×Bool}{X:XL}{K:KS}{es:List Cb}(F:Flr P C a)(H:HT P m0 h)(hS:Jf P C S)(hd:d++z::r=S)(E:Ents P C es d)
  (hK:∀es',Ents P C es' (d++[z])->K .next (hbM t P (fD (spm m0) Q) a1 (some (sp z.1)) (some (sp (goS z))) (some (sp (lfS z))) (some (sp (rtS z))) (some (.int (sg (lfS z)))) (some (.int (stp P m0 (lfS z) (rtS z)))) aa aa aa) (hbS a1 .no .no .no (enD 0 es') (hbT h es'))) :
  wpSs tHb [.expr (.meth (.meth (.v 2) 7 [(.v 3),(.list [])]) 0 [(.tup [(.v 4),(.v 8)])]),.expr (.meth (.meth (.v 2) 7 [(.v 4),(.list [])]) 0 [(.tup [(.v 3),(.bin .Sub (.int 0) (.v 8))])])] X (hbM t P (fD (spm m0) Q) a1 (some (sp z.1)) (some (sp (goS z))) (some (sp (lfS z))) (some (sp (rtS z))) (some (.int (sg (lfS z)))) (some (.int (stp P m0 (lfS z) (rtS z)))) aa aa aa) (hbS a1 .no .no .no (enD 0 es) (hbT h es)) K:=by
 have hz:=(hS.mem z).mp (by rw [<- hd];exact aT _ (.head _))
 have st:=JD H hz.2;have co:=F.co.few;have ld:=CB hd;have lS:=hS.few;have e1:enA h z.1 (goS z)=.tup [sp (goS z),.int (stp P m0 (lfS z) (rtS z))]:=by unfold enA;rw [st]
 have e2:enA h (goS z) z.1=.tup [sp z.1,.int (0 - stp P m0 (lfS z) (rtS z))]:=by
  unfold enA;rw [<- st,show h z.1 - h (goS z)=0 - (h (goS z) - h z.1) by exact ah (lin [] [h z.fst,h (goS z)] (.f (.S V0 V1) (.S K0 (.S V1 V0))) [] rfl) (lin [] [h (goS z),h z.fst] (.f (.S K0 (.S V0 V1)) (.S V1 V0)) [] rfl)]
 have f1:=E.few;refine put_ok (k:=z.1) (g:=goS z) (n:=2 * d.length) (by exact lin [C.length,d.length,S.length] [] (.b (.M 2 V1) Gk) [.C 4 V0 K64,.C 2 V1 V2,.B 2 V2 (.M 2 V0)] rfl co ld lS) (fun V K q=>q) (fun V K q=>by rw [e1] at q;exact q) E.nd (fun q=>Nat.lt_trans (Hz E.nd E.inC hz.1 q) co) (by exact lin [C.length,es.length] [] (.b V1 Gk) [.c V0 K64,.b V1 V0] rfl co f1) E.len fun u p1=>?_
 have gC:=(JE hz.2).1.in F.co;have y:∀e∈u,e.1∈C:=fun e he=>by
  rcases p1.keys e he with w | ⟨f,hf,w⟩
  ·rw [w];exact hz.1
  ·rw [<- w];exact E.inC f hf
 have f2:u.length<=C.length:=by
  have:=sub_length (k:=C) (p1.nd E.nd) fun x hx=>by
   refine X1pp (aZ.mp hx) fun e he Z0=>?_;clear hx;subst Z0;exact y e he
  rwa [aj] at this
 refine put_ok (k:=goS z) (g:=z.1) (n:=2 * d.length+1) (by exact lin [C.length,d.length,S.length] [] (.b (.A (.M 2 V1) K1) Gk) [.C 4 V0 K64,.C 2 V1 V2,.B 2 V2 (.M 2 V0)] rfl co ld lS) (fun V K q=>q) (fun V K q=>by rw [e2] at q;exact q) (p1.nd E.nd) (fun q=>Nat.lt_trans (Hz (p1.nd E.nd) y gC q) co) (by exact lin [C.length,u.length] [] (.b V1 Gk) [.c V0 K64,.b V1 V0] rfl co f2) (p1.len _ E.len) fun U p2=>?_
 exact hK U (E.put F.co hz.2 p1 p2)
theorem hb_turn{t:AV}{P C Q:List Sp}{a:Sp}{m0:Sp->Sp}{h:Sp->Int}{a1:Addr}{S d r:List (Sp×Bool)}{z:Sp×Bool}{m:M}{V:LS}{X:XL}{KK:KS}(F:Flr P C a)(H:HT P m0 h)(hQ:∀k∈P,k∈Q)(hS:Jf P C S)(j:HbJ t P C h (fD (spm m0) Q) a1 S d (z::r) m V)(CC:M->LS->Prop)(hC:∀As Ab,HbJ t P C h (fD (spm m0) Q) a1 S (d++[z]) r As Ab->CC As Ab) :
  patW true (.tup [(.v 3),(.v 4),(.v 5),(.v 6),(.v 7)]) (sdA z) m (fun Am=>wpSs tHb [.assign (.v 8) (.v 7),.ite (.and [(.meth (.v 0) 15 [(.v 5)]),(.cmp .Eq (.sub (.v 1) (.v 5)) (.v 6))]) [.assign (.v 8) (.bin .Mult (.neg (.int 3)) (.v 7))] [],.expr (.meth (.meth (.v 2) 7 [(.v 3),(.list [])]) 0 [(.tup [(.v 4),(.v 8)])]),.expr (.meth (.meth (.v 2) 7 [(.v 4),(.list [])]) 0 [(.tup [(.v 3),(.bin .Sub (.int 0) (.v 8))])])] X Am V (Ex aa V CC KK)):=by
 cases j with
 | mk x3 x4 x5 x6 x7 x8 es hd E =>
  have go:=hb_puts (t:=t) (Q:=Q) (a1:=a1) (X:=X) (K:=Ex aa (hbS a1 .no .no .no (enD 0 es) (hbT h es)) CC KK) F H hS hd E fun B E'=>hC _ _ (.mk _ _ _ _ _ _ B (by rw [aI];exact hd) E')
  unfold stp at go
  by_cases q:lfS z∈P
  ·by_cases e:m0 (lfS z)=rtS z
   ·rw [if_pos ⟨q,e⟩] at go
    exact ⟨⟨rfl,rfl⟩,⟨rfl,rfl⟩,t,P,lfS z,true,rfl,rfl,decide_eq_true q,_,Cs (hQ _ q),true,EqP.sp e,fG (by decide +kernel),go⟩
   ·rw [if_neg fun w=>e w.2] at go
    exact ⟨⟨rfl,rfl⟩,⟨rfl,rfl⟩,t,P,lfS z,true,rfl,rfl,decide_eq_true q,_,Cs (hQ _ q),false,EqP.nsp e,go⟩
  ·rw [if_neg fun w=>q w.1] at go
   exact ⟨⟨rfl,rfl⟩,⟨rfl,rfl⟩,t,P,lfS z,false,rfl,rfl,decide_eq_false q,go⟩
noncomputable abbrev hbS2(a1 a2 a3:Addr)(F:List (Af×AV))(W:List AV)(D:List (Af×AV))(T:LS):LS:=hbS a1 (.at a2 (.dict F)) (.at a3 (.list W)) .no D T
noncomputable def hbM2(t:AV)(P:List Sp)(D0:List (Af×AV))(a1 a2 a3:Addr)(x3 x4 x5 x6 x7 x8 x11:Option AV):M:=hbM t P D0 a1 x3 x4 x5 x6 x7 x8 (some (.loc a2 5)) (some (.loc a3 6)) x11
inductive HcJ(t:AV)(P C:List Sp)(a:Sp)(h:Sp->Int)(D0 D:List (Af×AV))(T:LS)(a1 a2 a3:Addr):Nat->M->LS->Prop
 | mk (fs ws:List Sp)(x3 x4 x5 x6 x7 x8 x11:Option AV)(F:List (Af×AV))(W:List AV)(hd:Dfs (Eg P) (·∈C) a fs ws)(hM:DX C.length fs ws<=2 * (C.length+1)+1)(eF:F=fD (hN h a) fs)(eW:W=ws.map sp):HcJ t P C a h D0 D T a1 a2 a3 (DX C.length fs ws) (hbM2 t P D0 a1 a2 a3 x3 x4 x5 x6 x7 x8 x11) (hbS2 a1 a2 a3 F W D T)
inductive HcI(t:AV)(P C:List Sp)(a:Sp)(h:Sp->Int)(D0 D:List (Af×AV))(T:LS)(a1 a2 a3:Addr)(e:Sp)(n:Nat)(d r:List Sp):M->LS->Prop
 | mk (fs ws:List Sp)(x3 x4 x5 x6 x7 x8:Option AV)(F:List (Af×AV))(W:List AV)(hd:DfsAt (Eg P) (·∈C) a fs ws e r)(hM:DX C.length fs ws<n)(hr:∀g∈r,Eg P e g)(eF:F=fD (hN h a) fs)(eW:W=ws.map sp):HcI t P C a h D0 D T a1 a2 a3 e n d r (hbM2 t P D0 a1 a2 a3 x3 x4 x5 x6 x7 x8 (some (sp e))) (hbS2 a1 a2 a3 F W D T)
theorem hc_turn{t:AV}{P C:List Sp}{a e c:Sp}{h:Sp->Int}{D0 D:List (Af×AV)}{T:LS}{a1 a2 a3:Addr}{i n:Nat}{d r:List Sp}{m:M}{V:LS}{X:XL}{KK:KS}(F:Flr P C a)(hn:n<=2 * (C.length+1)+1)(j:HcI t P C a h D0 D T a1 a2 a3 e n d (c::r) m V)(CC:M->LS->Prop)(hC:∀As Ab,HcI t P C a h D0 D T a1 a2 a3 e n (d++[c]) r As Ab->CC As Ab) :
  patW true (.tup [(.v 4),(.v 8)]) (enA h e c) m (fun Am=>wpSs tHb [.ite (.cmp .NotIn (.v 4) (.v 9)) [.setitem (.v 9) (.v 4) (.bin .Add (.sub (.v 9) (.v 11)) (.v 8)),.expr (.meth (.v 10) 0 [(.v 4)])] []] X Am V (Ex (some (i+8)) V CC KK)):=by
 cases j with
 | mk fs ws x3 x4 x5 x6 x7 x8 G W hd hM hr eF eW =>
  have u:∀g∈r,Eg P e g:=fun c z=>hr c (.tail _ z);have co:=F.co.few;have lf:=c_len hd.nd hd.rc;have lw:=Dfs.len (aB (cK hM) hn)
  by_cases q:c∈fs
  ·exact ⟨true,⟨rfl,by rw [eF];exact FK q⟩,rfl,hC _ _ (.mk fs ws _ _ _ _ _ _ G W (hd.skip fun Z=>q) hM u eF eW)⟩
  ·have pu:=hd.push ((hr c (.head _)).in F.co) q
   refine ⟨false,⟨rfl,by rw [eF];exact DD q⟩,rfl,.int (h e - h a),by rw [eF];exact Cs hd.he,rfl,Ar (by rw [eF,Bj];exact lin [C.length,fs.length] [] (.b V1 AE) [.c V0 K64,.b V1 (.A V0 K1)] rfl co lf),rfl,rfl,Ar (by rw [eW,aj];exact lin [C.length,ws.length] [] (.b V1 AE) [.C 2 V0 K64,.b V1 (.A (.M 2 (.A V0 K1)) K1)] rfl co lw),rfl,?_⟩
   refine hC _ _ (.mk _ _ _ _ _ _ _ _ _ _ pu (cW (DW (c_len pu.nd pu.rc)) hM) u ?_ (by rw [eW,aP];rfl))
   rw [eF];refine CJ q ?_;show AV.int (h e - h a+(h c - h e))=.int (h c - h a)
   congr 1
   exact ah (lin [] [h e,h a,h c] (.f (.A (.S V0 V1) (.S V2 V0)) (.S V2 V1)) [] rfl) (lin [] [h c,h a,h e] (.f (.S V0 V1) (.A (.S V2 V1) (.S V0 V2))) [] rfl)
theorem iterW.at{V:LS}{b:Addr}{i:Nat}{l:List AV}{G:KG}(e:slot V i=.at b (.list l))(h:G l (some i) V):iterW true (.loc b i) V G:=by
 unfold iterW;simp only [e];exact ⟨trivial,h⟩
inductive LK(P:List Sp)(h:Sp->Int)(es:List Cb)(k:Sp):Prop
 | mk (b:Addr)(i:Nat)(gs:List Sp)(g:Bq (enD 0 es) k=some (.loc b (i+8)))(s:slot (hbT h es) i=.at b (.list (gs.map (enA h k))))(cm:∀c,Eg P k c->c∈gs)(eg:∀c∈gs,Eg P k c):LK P h es k
theorem Ents.at{P C:List Sp}{es:List Cb}{S:List (Sp×Bool)}{h:Sp->Int}(E:Ents P C es S)(hS:Jf P C S)(hC:Cor P C){k:Sp}(hk:k∈C):LK P h es k:=by
 refine X1p (Lq hC hk) fun g0 B=>?_;obtain ⟨⟨k',b,gs⟩,he,rfl,_⟩:=E.all hS hC hk B;refine X2p (List.append_of_mem he) fun e1 e2 Z0=>?_;subst Z0;have g1:=Ff (i:=0) (e2:=e2) (b:=b) (gs:=gs) fun e he z=>E4 E.nd e he z;rw [gl] at g1;refine .mk b e1.length gs g1 Kz (fun c hc=>?_) (E.eg _ he);obtain ⟨⟨k2,b2,T⟩,h1,h2,h3⟩:=E.all hS hC hk hc
 rcases aN.mp h1 with h1 | h1
 ·exact (E4 E.nd _ h1 h2).elim
 ·rcases aD.mp h1 with z | h1
  ·cases z;exact h3
  ·have Y:=E.nd
   rw [aP,bm] at Y;exact absurd (h2▸cD (f:=(·.1)) h1) (bz.mp (bF.mp Y).2.1).1
theorem hc_body{t:AV}{P C Q:List Sp}{a:Sp}{m:Sp->Sp}{h:Sp->Int}{S:List (Sp×Bool)}{es:List Cb}{a1 a2 a3:Addr}{x3 x4 x5 x6 x7 x8:Option AV}{X:XL}{KK:KS}(F:Flr P C a)(hS:Jf P C S)(E:Ents P C es S)(hK:∀a4 m' τ,slot τ 7=.at a4 (.dict (fD (hN h a) C))->KK (.ret (.loc a4 7)) m' τ) :
  wpSs tHb (c_heights_by.body.drop 4) X (hbM2 t P (fD (spm m) Q) a1 a2 a3 x3 x4 x5 x6 x7 x8 aa) (hbS2 a1 a2 a3 [(a,.int 0)] [sp a] (enD 0 es) (hbT h es)) KK:=by
 have co:=F.co.few;refine ⟨HcJ t P C a h (fD (spm m) Q) (enD 0 es) (hbT h es) a1 a2 a3,⟨_,.mk [a] [a] _ _ _ _ _ _ _ _ _ (Dfs.start F.aC) (by unfold DX;rw [bW];exact lin [C.length+1 - 1,C.length] [] (.b (.A (.M 2 V0) K1) (.A (.M 2 (.A V1 K1)) K1)) [.B 2 V0 (.A V1 K1)] rfl (eQ (C.length+1) (1))) (by unfold fD hN;rw [List.map_singleton,Int.sub_self]) rfl⟩,fun n m' V j=>?_⟩
 cases j with
 | mk fs ws y3 y4 y5 y6 y7 y8 z G W hd hM eF eW =>
  have O:W.length<=big:=by rw [eW,aj];exact DL (aB (Dfs.len hM) (by exact lin [C.length] [] (.b (.A (.M 2 (.A V0 K1)) K1) Gl) [.C 2 V0 K64] rfl co))
  refine ⟨rfl,O,?_⟩
  rcases fu ws with rfl | ⟨w,e,rfl⟩
  ·have all:=hd.corners F.hg F.co F.ha
   have hP:=F.few;subst eF;clear O;subst eW;refine ⟨⟨rfl,rfl⟩,⟨rfl,rfl⟩,t,P,C,rfl,rfl,by exact lin [P.length] [] (.b V0 Eb) [.b V0 K36] rfl hP,F.co,Ar (by rw [aj];exact lin [C.length] [] (.b V0 AE) [.c V0 K64] rfl co),?_⟩
   refine BZ (r:=C) (g:=sp) (f:=fun k=>pvA (k,hN h a k)) rfl (fun k hk CC hC=>⟨rfl,_,Cs ((all k).mpr hk),hC⟩) ?_;exact .inr ⟨fD (hN h a) C,by unfold fD;rw [bc];rfl,⟨Ar (by rw [Bj];exact lin [C.length] [] (.b V0 AE) [.c V0 K64] rfl co),by rw [fD_keys];exact Cu F.co.up⟩,fun a4=>hK a4 _ _ rfl⟩
  ·rw [cV] at hd hM ⊢
   rw [cV,aP] at eW;have l1:(w++[e]).length=w.length+1:=ao
   cases E.at (h:=h) hS F.co (hd.rc e (hd.wf e (aT _ (.head _)))) with
   | mk b i gs g1 g2 cm eg =>
    refine ifT (decide_eq_true (by rw [eW,ao];exact iv.mpr (gj _))) ⟨rfl,rfl,O,sp e,by rw [eW];exact fS,rfl,_,g1,iterW.at g2 ?_⟩
    refine AQ (r:=gs) (g:=enA h e) rfl (HcI t P C a h (fD (spm m) Q) (enD 0 es) (hbT h es) a1 a2 a3 e (DX C.length fs (w++[e]))) (fun d m τ j=>?_) (fun d c r m τ j CC hC=>hc_turn F hM j CC hC) (d:=[]) (.mk fs w _ _ _ _ _ _ _ _ (hd.pop cm) (by unfold DX;rw [l1];exact lin [C.length+1 - fs.length,w.length] [] (.c (.A (.M 2 V0) V1) (.A (.M 2 V0) (.A V1 K1))) [] rfl) eg eF (by rw [eW];exact fT))
    cases j with
    | mk fs' T z3 z4 z5 z6 z7 z8 F' W' Y u _ U y=>exact ⟨_,u,.mk fs' T _ _ _ _ _ _ _ _ _ Y.done (aB (cK u) hM) U y⟩
theorem retW.new{k i:Nat}{V:LS}{a:Addr}{l:List (Af×AV)}{K:KR}(e:slot V i=.at a (.dict l))(hk:Nat.ble k i=true)(h:K ⟨[.dict l],.new 0⟩ (V.take k)):retW .new k (.loc a i) V K:=by
 show newW k V (.loc a i) [] [] (fun sh Z os=>K ⟨os,sh⟩ (V.take k));unfold newW;simp only [e,isLD,hk];exact ⟨trivial,h⟩
theorem hby_ok:FnOk tHb c_heights_by .new 10 72 fHby:=by
 refine .specF fun u V K X hh=>?_;obtain ⟨t,P,C,a,Q,m,h,rfl,rfl,⟨F,H,hQ⟩,hK⟩:=hh;have hP:=F.few;refine ⟨rfl,fun a1=>⟨t,P,C,rfl,rfl,⟨hP,F.co⟩,fun S hS=>?_⟩⟩;refine AQ (r:=S) (g:=sdA) rfl (HbJ t P C h (fD (spm m) Q) a1 S) (fun d m' τ j=>?_) (fun d z r m' τ j CC hC=>hb_turn F H hQ hS j CC hC) (d:=[]) (.mk _ _ _ _ _ _ [] rfl ⟨.nil,fun Z z=>(by cases z),fun Z z=>(by cases z),fun Z z=>(by cases z),fun Z z=>(by cases z)⟩)
 cases j with
 | mk x3 x4 x5 x6 x7 x8 es hd E =>
  rw [aM] at hd;subst hd;exact ⟨t,P,C,a,rfl,rfl,F,fun a2=>⟨t,P,C,a,rfl,rfl,F,fun a3=>hc_body (a:=a) F hS E fun a4 m' τ e=>retW.new (i:=7) e rfl hK⟩⟩
inductive QfHof(avs:List AV)(V:LS)(K:KR):Prop
 | mk (t:AV)(P:List Sp)(C:List Sp)(a:_)(m:Sp->Sp)(h:Sp->Int)(b:_)(H:List (Sp×Sp))(c0:avs=[Bi t P,.loc b 0])(c1:V=[.at b (.list (H.map pcA))])(c2:(Flr P C a/\Mt P m/\HT P m h/\Hand P m H))(c3:K ⟨[.dict (fD (hN h a) C)],.new 0⟩ [.at b (.list (H.map pcA))]):QfHof avs V K
noncomputable def fHof:FS:=specF fun avs V K Z=>QfHof avs V K
theorem hof_ok:FnOk ⟨true,[],[(47,fHby),(39,FU)],[],[]⟩ Dl .new 0 4 fHof:=by
 refine .specF fun u V K X hh=>?_;obtain ⟨t,P,C,a,m,h,b,H,rfl,rfl,⟨F,M,ht,hH⟩,hK⟩:=hh;exact ⟨rfl,t,P,m,b,H,rfl,rfl,⟨F.few,Cu F.up,M,hH⟩,t,P,C,a,_,m,h,rfl,rfl,⟨F,ht,fun k hk=>(hH.mem k).mpr hk⟩,fun a4=>⟨rfl,hK⟩⟩
end
section
noncomputable abbrev tLaw4:Tab:=⟨true,[],[(72,fAt),(88,HU),(87,fDrawn),(29,fFloor),(105,HS),(92,Ld),(48,fHof),(106,fSame),(90,fTold)],[],[]⟩
theorem Nice.pc(q:Af×Af):Nice 2 (pcA q):=Nice.tup fun x hx=>by
 rcases aD.mp hx with rfl | hx
 ·exact Nice.sp _
 ·rw [aJ.mp hx];exact Nice.sp _
theorem Nice.pcs(l:List (Af×Af)):Nice 3 (.list (l.map pcA)):=Nice.list fun x hx=>by
 refine X1pp (aZ.mp hx) fun q Z Z0=>?_;clear hx;subst Z0;exact Nice.pc q
theorem eq_hN(h:Sp->Int)(a:Sp)(C:List Sp):EqP (.dict (fD (hN h a) C)) (.dict (fD (hN h a) C)) true:=.dict _ rfl rfl (fun p hp=>by
 refine X1pr p (aZ.mp hp) fun k Z=>?_;exact ⟨_,rfl⟩) rfl
noncomputable def l4M(l:List Int)(G:Gr)(D1 due:List (Af×AV))(giv:List AV)(a4:Addr)(fnd:List (Af×AV))(x8 x9 x10:Option AV):M:=[some (.nums l),some (.list (AC G)),some (.dict D1),some (Bi (.list (AC G)) (Ae G)),some (.dict due),some (.list giv),some (.loc a4 4),some (.dict fnd),x8,x9,x10]
noncomputable def l4S(s4 s5 s6 s7 s8:Slot):LS:=[.no,.no,.no,.no,s4,s5,s6,s7,s8]
theorem Flr.same{P C fs:List Sp}{a:Sp}(F:Flr P C a)(nd:fs.Nodup)(hm:∀k,k∈fs↔k∈C):C.length<=100/\C.Nodup/\fs.Nodup/\∀k,k∈fs↔k∈C:=⟨by have:=F.co.few;exact lin [C.length] [] (.b V0 Eb) [.c V0 K64] rfl this,Cu F.co.up,nd,hm⟩
theorem Kj{l:List Int}{G:Gr}{C Ks fs:List Sp}{a:Sp}{m1 m2:Sp->Sp}{h1 h2:Sp->Int}{H1:List (Sp×Sp)}{a4 a5:Addr}{s6 s7 s8:Slot}{X:XL}{KK:KS}(F:Flr (Ae G) C a)(L1:Lyd (Ae G) Ks m1 h1)(L2:Lyd (Ae G) Ks m2 h2)(g1:Hand (Ae G) m1 H1)(sm:C.length<=100/\C.Nodup/\fs.Nodup/\∀k,k∈fs↔k∈C)(hK:∀m V,KK (.ret (.bool true)) m V) :
  wpSs tLaw4 (c_law4.body.drop 12) X (l4M l G (fD (spm m1) Ks) (fD (hN h1 a) fs) (H1.map pcA) a4 (fD (hN h1 a) C) (some (.dict (fD (hN h1 a) C))) (some (.dict (fD (spm m2) Ks))) (some (.loc a5 5))) (l4S (.at a4 (.list (H1.map pcA))) (.at a5 (.dict (fD (hN h2 a) C))) s6 s7 s8) KK:=by
 have lC:(fD (hN h2 a) C).length<=big:=Ar (by rw [Bj];exact lin [C.length] [] (.b V0 AE) [.b V0 Eb] rfl sm.1)
 have l1:(H1.map pcA).length<=big:=Ar (by rw [aj];have:=g1.len F.few;exact lin [H1.length] [] (.b V0 AE) [.b V0 K18] rfl this)
 refine ⟨rfl,lC,rfl,l1,rfl,Ae G,Ks,m2,h2,rfl,rfl,⟨F.few,L2⟩,fun H2 g2=>?_⟩;have l2:(H2.map pcA).length<=18:=by rw [aj];exact g2.len F.few
 refine ⟨rfl,Ar (by show 0+(H2.map pcA).length<=_;exact lin [(List.map pcA H2).length] [] (.b (.A K0 V0) AE) [.b V0 K18] rfl l2),?_⟩
 refine ⟨.list (AC G),Ae G,C,a,m2,h2,a4,H2,rfl,rfl,⟨F,L2.mt,L2.ht,g2⟩,?_⟩;refine ⟨Ae G,C,a,Ks,m2,h2,rfl,rfl,⟨F,L2⟩,fun B n2 O=>?_⟩;refine ⟨_,C,h2,a,B,rfl,F.same n2 O,.inl ⟨rfl,rfl⟩,?_⟩;refine ⟨l1,fun a7=>⟨.list (AC G),Ae G,C,a,m1,h1,a7,H1,rfl,rfl,⟨F,L1.mt,L1.ht,g1⟩,?_⟩⟩;exact ⟨_,C,h1,a,fs,rfl,sm,.inl ⟨rfl,rfl⟩,true,eq_hN h1 a C,hK _ _⟩
theorem Ki{l:List Int}{G:Gr}{C Ks fs:List Sp}{a:Sp}{m1:Sp->Sp}{h1:Sp->Int}{H1:List (Sp×Sp)}{a4:Addr}{s5 s6 s7 s8:Slot}{X:XL}{KK:KS}(hl:l.length<=1000)(F:Flr (Ae G) C a)(L1:Lyd (Ae G) Ks m1 h1)(g1:Hand (Ae G) m1 H1)(sm:C.length<=100/\C.Nodup/\fs.Nodup/\∀k,k∈fs↔k∈C)(hK:∀m V,KK (.ret (.bool true)) m V) :
  wpSs tLaw4 (c_law4.body.drop 7) X (l4M l G (fD (spm m1) Ks) (fD (hN h1 a) fs) (H1.map pcA) a4 (fD (hN h1 a) C) aa aa aa) (l4S (.at a4 (.list (H1.map pcA))) s5 s6 s7 s8) KK:=by
 have lC:(fD (hN h1 a) C).length<=big:=Ar (by rw [Bj];exact lin [C.length] [] (.b V0 AE) [.b V0 Eb] rfl sm.1)
 have ne:fD (hN h1 a) C≠[]:=fun e=>by
  have:=F.aC
  rw [show C=[] from List.map_eq_nil_iff.mp e] at this
  cases this
 refine ⟨_,C,h1,a,fs,rfl,sm,.inl ⟨rfl,rfl⟩,rfl,true,(Nice.pcs H1).eq (by decide),?_⟩
 refine .inl ⟨⟨lC,ne,KC sm.2.1 fun k hk=>F.cSm hk⟩,?_⟩;refine ⟨l,5,rfl,hl,rfl,Ae G,C,a,Ks,m1,h1,l.getD 5 0,9,rfl,rfl,⟨F,L1,by decide,by decide⟩,fun m2 h2 L2=>?_⟩
 refine ⟨Ae G,Ks,m2,h2,rfl,rfl,⟨F.few,L2⟩,fun H2 g2 a6=>?_⟩;refine ⟨.list (AC G),Ae G,C,a,m2,h2,a6,H2,rfl,rfl,⟨F,L2.mt,L2.ht,g2⟩,fun a5=>?_⟩;refine ⟨Ae G,C,a,Ks,m2,h2,rfl,rfl,⟨F,L2⟩,fun B n2 O=>?_⟩;refine ⟨_,C,h2,a,B,rfl,F.same n2 O,.inr ⟨a5,rfl,rfl⟩,true,eq_hN h1 a C,?_⟩;exact Kj F L1 L2 g1 sm hK
inductive QfLaw4(avs:List AV)(V:LS)(K:KR):Prop
 | mk (l:List Int)(c0:avs=[.nums l])(c1:l.length<=63)(c2:V=[])(c3:K ⟨[],.val (.bool true)⟩ []):QfLaw4 avs V K
noncomputable def fLaw4:FS:=specF fun avs V K X=>QfLaw4 avs V K
theorem law4_ok:FnOk tLaw4 c_law4 .val 10 9 fLaw4:=by
 refine .specF fun u V K X h=>?_;obtain ⟨l,rfl,hl,rfl,hK⟩:=h;have hl:l.length<=1000:=by exact lin [l.length] [] (.b V0 AE) [.b V0 K63] rfl hl
 refine ⟨rfl,l,rfl,rfl,hl,fun G w Ks m0 h0 f L0=>?_⟩;refine X1p f.flr fun a F=>?_;have d:=Be (a:=l.getD 3 0) (b:=61) (by decide)
 refine ⟨l,2,rfl,hl,rfl,l,3,rfl,hl,rfl,Ae G,_,a,Ks,m0,h0,l.getD 2 0,(l.getD 3 0).fmod 61,rfl,rfl,⟨F,L0,d.1,by exact lin [] [(l.getD 3 0).fmod 61] (.f V0 AE) [.g V0 K61] rfl d.2⟩,fun m1 h1 L1=>?_⟩
 refine ⟨Ar (CH f.g),fun a8=>⟨a8,G,w,rfl,rfl,f,?_⟩⟩;refine ⟨Ae G,_,a,Ks,m1,h1,rfl,rfl,⟨F,L1⟩,fun fs nd hm=>?_⟩;refine ⟨l,4,rfl,hl,rfl,Ae G,Ks,m1,h1,l.getD 4 0,rfl,rfl,⟨F.few,L1⟩,fun H1 g1=>?_⟩;refine ⟨Ar (by rw [aj];have:=g1.len F.few;exact lin [H1.length] [] (.b V0 AE) [.b V0 K18] rfl this),fun a4=>?_⟩
 refine ⟨.list (AC G),Ae G,_,a,m1,h1,a4,H1,rfl,rfl,⟨F,L1.mt,L1.ht,g1⟩,?_⟩;exact Ki hl F L1 g1 (F.same nd hm) fun Z Z=>hK
end
section
noncomputable def D04:LawD:=⟨[(29, "Floor"),(30, "is_whole"),(31, "is_spot"),(32, "order_of"),(33, "is_dark"),(34, "near_to"),(35, "spread_from"),(36, "are_rows"),(38, "is_piece"),(39, "partners_of"),(44, "hands_of"),(45, "sides_of"),(46, "first_corner"),(47, "heights_by"),(48, "heights_of"),(72, "_law_cell_at"),(73, "_law_mixed"),(74, "_law_turned_rows"),(75, "_law_rows_by"),(85, "_law_pairs_flat"),(86, "_law_turn"),(87, "_law_drawn_pairs"),(88, "_law_floor_by"),(89, "_law_order"),(90, "_law_told"),(91, "_law_first"),(92, "_law_handed"),(104, "_law_step"),(105, "_law_numbers"),(106, "_law_same")],
 [(13, "around"),(15, "has"),(16, "cells"),(18, "corners")],
 (false, "is_whole",Lx,["thing"]) ::
 (false, "is_spot",c_spot,["thing"]) ::
 (false, "order_of",EH,["spot"]) ::
 (false, "is_dark",F7,["cell"]) ::
 (false, "near_to",c_near,["spot"]) ::
 (false, "spread_from",c_spread,["first", "some"]) ::
 (false, "are_rows",F8,["rows"]) ::
 (true, "__init__",c_Finit,["self", "rows"]) ::
 (true, "around",F9,["self"]) ::
 (true, "has",c_Fhas,["self", "place"]) ::
 (true, "cells",Ie,["self"]) ::
 (true, "corners",EM,["self"]) ::
 (false, "is_piece",EK,["floor", "thing"]) ::
 (false, "partners_of",CR,["floor", "pieces"]) ::
 (false, "hands_of",EL,["corner", "way"]) ::
 (false, "sides_of",EG,["floor"]) ::
 (false, "first_corner",Cj,["floor"]) ::
 (false, "heights_by",c_heights_by,["floor", "partners"]) ::
 (false, "heights_of",Dl,["floor", "pieces"]) ::
 (false, "_law_cell_at",EJ,["_law_script", "_law_k"]) ::
 (false, "_law_mixed",Ib,["_law_number", "_law_k"]) ::
 (false, "_law_turned_rows",Ch,["_law_rows"]) ::
 (false, "_law_rows_by",EI,["_law_cell", "_law_more", "_law_even"]) ::
 (false, "_law_pairs_flat",CU,["_law_rows", "_law_upright"]) ::
 (false, "_law_turn",c_lturn,["_law_pairs", "_law_corner"]) ::
 (false, "_law_drawn_pairs",Ci,["_law_pairs", "_law_number", "_law_many"]) ::
 (false, "_law_floor_by",c_lfloor_by,["_law_script"]) ::
 (false, "_law_order",Ia,["_law_place"]) ::
 (false, "_law_told",Ly,["_law_pairs"]) ::
 (false, "_law_first",Ic,["_law_piece"]) ::
 (false, "_law_handed",F6,["_law_pairs", "_law_number"]) ::
 (false, "_law_step",c_lstep,["_law_pairs", "_law_corner", "_law_way"]) ::
 (false, "_law_numbers",c_lnumbers,["_law_pairs"]) ::
 (false, "_law_same",Lz,["_law_found", "_law_due"]) ::
 (false, "law",c_law4,["_law_script"])::[],[]⟩
theorem D04_ok:D04.Ok:=⟨by decide +kernel,by decide +kernel,by decide +kernel,by decide +kernel,by decide +kernel⟩
theorem Hy(x:AV)(p:Af)(h:kyF x=some p):(pureF keyF).pure [x]=some (sp p):=by
 refine X1pp (AG h) fun k h1 h=>?_
 cases h
 rw [spot?_out h1];rfl
theorem U_ok{K:Frag}{ex:List Nat}(h:ex.all (WK D04 []).U=true):ex.all (WK D04 K).U=true:=h
section
variable {S:Sta}
theorem law_call{l:List Int}(st:Gf D04 S.K)(u:S.cv=cvK D04 S.K)(G:Good S (WK D04 S.K))(hq:S.hx=aa)(hl:l.length<=63) :
  CallT S 8 (.ref (adr (ownV S.K "law"))) [.nums l] (Av []) (OutF fun r Z=>r=⟨[],.val (.bool true)⟩) (Up CA):=by
 have O:=D04_ok;have q1:true=true->S.hx=aa:=fun Z=>hq;have T0:∀(k:Nat)(ex:List Nat),ex.all (WK D04 S.K).U=true->TabOk S (WK D04 S.K) k ⟨true,ex,[],[],[]⟩:=fun k ex hx=>TabOk.of G q1 hx trivial trivial trivial;have E0:([]:List Nat).all (WK D04 S.K).U=true:=rfl;have whole:=FnS.of (S:=S) O st u (i:=30) (af (i:=0) rfl) (by decide +kernel) whole_ok (T0 0 [] E0)
 have spot:=FnS.of (S:=S) O st u (i:=31) (af (i:=1) rfl) (by decide +kernel) spot_ok (TabOk.of (k:=1) (ex:=[]) G q1 E0 ⟨whole,trivial⟩ trivial trivial)
 have ky1:=KyS.of (S:=S) O st u (i:=32) (af (i:=2) rfl) (by decide +kernel) IQ Hy (T0 0 [] E0)
 have lord:=FnS.of (S:=S) O st u (i:=89) (af (i:=27) rfl) (by decide +kernel) FI (T0 0 [] E0)
 have ky2:=KyS.of (S:=S) O st u (i:=89) (af (i:=27) rfl) (by decide +kernel) FI Hy (T0 0 [] E0)
 have ky3:=KyS.of (S:=S) O st u (i:=91) (af (i:=29) rfl) (by decide +kernel) first_ok kyP_pure (TabOk.of (k:=1) (ex:=[]) G q1 E0 ⟨lord,trivial⟩ trivial trivial)
 have dark:=FnS.of (S:=S) O st u (i:=33) (af (i:=3) rfl) (by decide +kernel) dark_ok (T0 0 [] E0)
 have near:=FnS.of (S:=S) O st u (i:=34) (af (i:=4) rfl) (by decide +kernel) near_ok (T0 0 [] E0)
 have spread:=FnS.of (S:=S) O st u (i:=35) (af (i:=5) rfl) (by decide +kernel) Jx (TabOk.of (k:=1) (ex:=[]) G q1 E0 ⟨near,trivial⟩ trivial trivial)
 have arows:=FnS.of (S:=S) O st u (i:=36) (af (i:=6) rfl) (by decide +kernel) arows_ok (T0 0 [28] (U_ok (by decide +kernel)))
 have around:=MeS.of (S:=S) st (n:=13) (af (i:=8) rfl) (by decide +kernel) LG (T0 0 [] E0)
 have floor:=FnS.make (S:=S) O st u (af (i:=7) rfl) (fun Z=>rfl) rfl init_ok (TabOk.of (k:=2) (ex:=[28]) G q1 (U_ok (by decide +kernel)) ⟨arows.up (by decide),spread,trivial⟩ ⟨around.up (by decide),trivial⟩ trivial)
 have B:=MeS.of (S:=S) st (n:=15) (af (i:=9) rfl) (by decide +kernel) has_ok (TabOk.of (k:=2) (ex:=[]) G q1 E0 ⟨spot,trivial⟩ trivial trivial)
 have cells:=MeS.of (S:=S) st (n:=16) (af (i:=10) rfl) (by decide +kernel) cells_ok (T0 0 [] E0)
 have corners:=MeS.of (S:=S) st (n:=18) (af (i:=11) rfl) (by decide +kernel) I6 (TabOk.of (k:=3) (ex:=[]) G q1 E0 trivial trivial ⟨ky1,trivial⟩)
 have piece:=FnS.of (S:=S) O st u (i:=38) (af (i:=12) rfl) (by decide +kernel) piece_ok (TabOk.of (k:=3) (ex:=[]) G q1 E0 ⟨near.up (by decide),trivial⟩ ⟨B,trivial⟩ trivial)
 have d:=FnS.of (S:=S) O st u (i:=39) (af (i:=13) rfl) (by decide +kernel) GC (TabOk.of (k:=4) (ex:=[]) G q1 E0 ⟨piece,trivial⟩ ⟨cells.up (by decide),trivial⟩ trivial)
 have hands:=FnS.of (S:=S) O st u (i:=44) (af (i:=14) rfl) (by decide +kernel) hands_ok (T0 0 [] E0)
 have sides:=FnS.of (S:=S) O st u (i:=45) (af (i:=15) rfl) (by decide +kernel) sides_ok (TabOk.of (k:=4) (ex:=[]) G q1 E0 ⟨hands.up (by decide),dark.up (by decide),trivial⟩ ⟨B.up (by decide),corners,trivial⟩ trivial)
 have firstc:=FnS.of (S:=S) O st u (i:=46) (af (i:=16) rfl) (by decide +kernel) KQ (TabOk.of (k:=1) (ex:=[]) G q1 E0 trivial ⟨cells,trivial⟩ trivial)
 have hby:=FnS.of (S:=S) O st u (i:=47) (af (i:=17) rfl) (by decide +kernel) hby_ok (TabOk.of (k:=5) (ex:=[]) G q1 E0 ⟨sides,firstc.up (by decide),trivial⟩ ⟨B.up (by decide),corners.up (by decide),trivial⟩ trivial)
 have hof:=FnS.of (S:=S) O st u (i:=48) (af (i:=18) rfl) (by decide +kernel) hof_ok (TabOk.of (k:=6) (ex:=[]) G q1 E0 ⟨hby,d.up (by decide),trivial⟩ trivial trivial)
 have cat:=FnS.of (S:=S) O st u (i:=72) (af (i:=19) rfl) (by decide +kernel) at_ok (T0 0 [] E0)
 have Y:=FnS.of (S:=S) O st u (i:=73) (af (i:=20) rfl) (by decide +kernel) mixed_ok (T0 0 [] E0)
 have turned:=FnS.of (S:=S) O st u (i:=74) (af (i:=21) rfl) (by decide +kernel) Jq (T0 0 [] E0)
 have rowsby:=FnS.of (S:=S) O st u (i:=75) (af (i:=22) rfl) (by decide +kernel) JI (TabOk.of (k:=1) (ex:=[]) G q1 E0 ⟨Y,trivial⟩ trivial trivial)
 have pairs:=FnS.of (S:=S) O st u (i:=85) (af (i:=23) rfl) (by decide +kernel) pairs_ok (T0 0 [] E0)
 have floorby:=FnS.of (S:=S) O st u (i:=88) (af (i:=26) rfl) (by decide +kernel) I3 (TabOk.of (k:=2) (ex:=[]) G q1 E0 ⟨cat.up (by decide),rowsby,pairs.up (by decide),turned.up (by decide),trivial⟩ trivial trivial)
 have turn:=FnS.of (S:=S) O st u (i:=86) (af (i:=24) rfl) (by decide +kernel) turn_ok (T0 0 [] E0)
 have drawn:=FnS.of (S:=S) O st u (i:=87) (af (i:=25) rfl) (by decide +kernel) drawn_ok (TabOk.of (k:=1) (ex:=[]) G q1 E0 ⟨Y,turn,trivial⟩ trivial trivial)
 have told:=FnS.of (S:=S) O st u (i:=90) (af (i:=28) rfl) (by decide +kernel) told_ok (TabOk.of (k:=4) (ex:=[]) G q1 E0 ⟨lord.up (by decide),trivial⟩ trivial ⟨ky3,trivial⟩)
 have handed:=FnS.of (S:=S) O st u (i:=92) (af (i:=30) rfl) (by decide +kernel) KF (TabOk.of (k:=5) (ex:=[]) G q1 E0 ⟨Y.up (by decide),told,trivial⟩ trivial trivial)
 have step:=FnS.of (S:=S) O st u (i:=104) (af (i:=31) rfl) (by decide +kernel) step_ok (T0 0 [] E0)
 have y:=FnS.of (S:=S) O st u (i:=105) (af (i:=32) rfl) (by decide +kernel) IS (TabOk.of (k:=3) (ex:=[]) G q1 E0 ⟨step.up (by decide),trivial⟩ trivial ⟨ky2,trivial⟩)
 have same:=FnS.of (S:=S) O st u (i:=106) (af (i:=33) rfl) (by decide +kernel) same_ok (T0 0 [] E0)
 have T:TabOk S (WK D04 S.K) 7 tLaw4:=TabOk.of G q1 E0 ⟨cat.up (by decide),floorby.up (by decide),drawn.up (by decide),floor.up (by decide),y.up (by decide),handed.up (by decide),hof,same.up (by decide),told.up (by decide),trivial⟩ trivial trivial
 exact DS (V:=[]) T (Kr st (af (i:=34) rfl)) trivial (law4_ok.spec [.nums l] [] (fun r Z=>r=⟨[],.val (.bool true)⟩) CA ⟨l,rfl,hl,rfl,rfl⟩) fun ok hs z=>Dq ok hs z
end
end
section
noncomputable def keep04:List Nat:=[0,2,3,4,5,6,8,9,10,11,12,13,14,15,16,18,19,21,22,23,24,25,27,28,29,30,31,32,33,34,35,36,37,38,39,40,41,42]
noncomputable abbrev p04:dw:=PySem.Challenge.pw_uf010026_04
noncomputable def q04:dw:=view PySem.Challenge.pw_uf010026_04 keep04
noncomputable def Xt04(s:ae):Bool:=xlAt q04 [] s && recOk (RowW.records (OpenRow.toRowW (OpenLaw.row PySem.Challenge.rw_uf010026_04))) s
theorem opens:opening p04=plainProg p04.main.scope.names:=by kernel_rfl
theorem fence:∀s,fenceModules? p04 s=some s:=fun s=>by kernel_rfl
theorem boots:∀P,absHeap (Jb P) 11 {}=c9 P:=fun P=>by kernel_rfl
theorem sizes:∀P,((c9 P).isNs bV,(c9 P).objs.size,(c9 P).nsMap bV "__annotations__")=(true,11,some (.ref 6)):=fun P=>by kernel_rfl
noncomputable def Ec(w:World)(os:OsState):Option SharedT:=goT (stepT (denote treeTable) p04 w) (stepOk 11 (some (.ref 6))) 9000 ⟨Jb w.params,11,{},iC [],gE,im,os⟩ (topStub p04)
theorem ranA:∀w:World,(fun os=>(Ec w os).map fun r=>(staticsOk (gc p04.main.body) (c9 w.params) r.abs.heap && namesBound p04 r.abs.heap && gensDone r.abs && laidKept (c9 w.params) r.abs.heap))=fun Z=>some true:=fun w=>by
 unfold Ec;rw [b5,b6,b7,cb,eS]
 kernel_rfl
theorem ranB:∀w:World,(fun os=>(Ec w os).map fun r=>openSeen q04 [] (gc p04.main.body) Xt04 true r.abs)=fun Z=>some (openGood q04 []):=fun w=>by
 unfold Ec;rw [b5,b6,b7,cb,PySem.W.Fast.te4187177175401517315,eS]
 kernel_rfl
theorem ranC:∀w:World,(fun os=>(Ec w os).map fun r=>Hx D04 (DP r.abs.heap))=fun Z=>some (be 11 true):=fun w=>by
 unfold Ec;rw [b5,b6,b7,cb]
 kernel_rfl
theorem ranD:∀w:World,(fun os=>(Ec w os).map fun r=>(Fd D04 (DP r.abs.heap)).map (Ig (DP r.abs.heap)))=fun Z=>some ((Fd D04 []).map fun x=>some (some (some (Gw x.c.body)))):=fun w=>by
 unfold Ec;rw [b5,b6,b7,cb]
 kernel_rfl
theorem ranE:∀w:World,(fun os=>(Ec w os).map fun r=>(Fd D04 (DP r.abs.heap)).map (Gb (DP r.abs.heap)))=fun Z=>some ((Fd D04 []).map D7):=fun w=>by
 unfold Ec;rw [b5,b6,b7,cb]
 kernel_rfl
theorem Du{α β γ:Type}{o:Option α}{f:α->β}{g:α->γ}{a:β}{b:γ}(h1:o.map f=some a)(h2:o.map g=some b):(o.map fun r=>(f r,g r))=some (a,b):=by
 cases o with
 | none=>exact (Ak rfl h1).elim
 | some x=>rw [<- ar h1,<- ar h2];rfl
theorem ran:∀w:World,(fun os=>(goT (stepT (denote treeTable) p04 w) (stepOk 11 (some (.ref 6))) 9000 ⟨Jb w.params,11,{},iC [],gE,im,os⟩ (topStub p04)).map fun r=>seenT (c9 w.params) p04 q04 Xt04 (FM D04).obs r.abs)=fun Z=>some (true,openGood q04 [],(FM D04).val w) :=
 fun w=>funext fun os=>Du (congrFun (ranA w) os) (Du (congrFun (ranB w) os) (Du (congrFun (ranC w) os) (Du (congrFun (ranD w) os) (congrFun (ranE w) os))))
noncomputable abbrev r04:OpenRow:=OpenLaw.row PySem.Challenge.rw_uf010026_04
theorem said04:PySem.Challenge.rw_uf010026_04.wellSaid=true:=by rw [PySem.W.Fast.te9446332074065402090];kernel_rfl
theorem def04:(defOf q04 r04.name).isSome=true:=by kernel_rfl
noncomputable def d04:DefRec×List (Str×Expr):=(defOf q04 r04.name).get def04
theorem fits:(chainsOk q04 && opensWell r04.prog && (frees r04.toRowW && r04.within.isEmpty))=true:=by kernel_rfl
end
section
theorem left04:LeftO r04.prog q04 [] Xt04 (FM D04).obs (FM D04).val 9000:=left_of (p:=p04) opens rfl fence boots sizes ran
theorem head04(call:WalkO q04 [] (PySem.W.XL q04 []) (FM D04).says r04.toRowW d04.1 d04.2 fun f vs=>PySem.call f vs):PySem.Challenge.rw_uf010026_04.Holds :=
 holds_law said04 fun z=>holds_open (q:=q04) (loose:=[]) (Xt:=Xt04) (XP:=PySem.W.XL q04 []) (YP:=(FM D04).says) (N:=9000) left04 (FM D04).of (FM D04).keeps (fun s e=>xl_of s (aU.mp e).1) PySem.W.XL.keeps (Option.some_get def04).symm (by kernel_rfl) (by kernel_rfl)
  (fun s e=>recFacts_of (aU.mp e).2) (by kernel_rfl) z fits ⟨rfl,rfl,rfl,rfl,rfl,by decide +kernel⟩ (by w_witness2) call
theorem room_caller{S:Sta}(hq:S.hx=aa):Room S (fun Z=>False) 8 callerA :=
 ⟨by rw [hq];rfl,⟨[],rfl,fun e he=>by cases he⟩,by decide +kernel,by decide +kernel⟩
theorem inv_start{S:Sta}{s:ae}(h1:S.g=s.heap)(h2:S.gens=s.gens)(h3:S.drawn=s.drawn)(h4:S.os=s.os):Inv S (fun Z=>False) (fun Z=>aa) s :=
 ⟨fun b o e=>by rw [h1] at e;exact e,h2.symm,h3.symm,h4.symm,fun a d=>absurd rfl d,fun a d=>absurd rfl d,fun a h=>h.elim,fun a o e=>by cases e⟩
theorem rep_script{cv:Nat->Value}{h:Heap}{D:Addr->Prop}{a:Addr}{vs:List Value}{ns:List Int}(hL:h.IsList a vs.toArray)(hI:IntsAre vs ns)(hD:¬D a):Rep cv h D (.nums ns) (.ref a):=by
 obtain ⟨o,e,c,n,f⟩:=hL;refine .nums e c f hD ?_;clear e c f hD
 induction hI with
 | nil=>exact ⟨rfl,fun i x h=>by simp at h⟩
 | @cons m t vs ns _ ih =>
  refine ⟨by simp [ih.1],fun i x h=>?_⟩
  cases i with
  | zero=>simp at h;subst h;exact ⟨t,rfl⟩
  | succ i=>simp at h;simpa using ih.2 i x h
end
end Mine.Internal
set_option tactic.hygienic true in
theorem PySem.Challenge.cw_uf010026_04_holds : PySem.Challenge.rw_uf010026_04.Holds :=
 Mine.Internal.head04 (by
 intro w AH Ac mg mb G Y fa o pm cd doc dV kV ho hd' hcd hD hmg hg args vals as hpre hlay hrd hwl hlo;obtain ⟨K,KX,st⟩:=Y;refine Ground.open G ?_;intro T B D TE TW;have hfa:fa=Mine.Internal.adr (Mine.Internal.ownV K "law"):=by
  have e:=mg_of KX T.g st.L.law;have e':mg "law"=some (.ref fa):=hmg;rw [e] at e';cases e';rfl
 subst hfa;clear hD hcd hd' ho hmg B D TE TW G
 wrow_args hpre hlay hrd hwl hlo
 rename_i ns _ _ _ _ _ _ _ a vs _ hL _ _ _ hI _ hlen _
 have hsm:∃o,Ac.heap.get? cp=some o:=by
  obtain ⟨mm,⟨o,es,ep,e,_⟩,_⟩:=(T.seer (by decide +kernel)).mods
  exact ⟨o,e⟩
 let S:Mine.Internal.Sta:=⟨PySem.Challenge.rw_uf010026_04.row.prog,w,Mine.Internal.cvK Mine.Internal.D04 K,Ac.heap,K,KX,Ac.gens,Ac.drawn,Ac.os,mg,mb,T.g,T.b,T.nolimit,hsm,aa,fun x e=>by cases e⟩
 have C:=Mine.Internal.law_call (S:=S) (l:=ns) st rfl (Mine.Internal.goodD (S:=S) Mine.Internal.D04_ok st.L rfl (topRead_of T)) rfl (by omega)
 refine enter_call (dF (C (fun Z=>False) callerA [.ref a] Ac (Mine.Internal.room_caller rfl) (Mine.Internal.inv_start rfl rfl rfl rfl) (.cons (Mine.Internal.rep_script hL hI fun d=>d.elim (fun d=>absurd rfl d) id) .nil)) fun r s' z=>?_)
 cases r with
 | error e=>exact iq z
 | ok fl =>
  cases fl with
  | ret v =>
   obtain ⟨av,V',st,i,r,rt,τ,e,_,_,e'⟩:=z;subst e';subst e;obtain rfl:=r.inv;refine ⟨.inl ⟨.bool true,.bool true,[],rfl,fun cls=>?_,.bool true,?_,fun Z=>⟨by simp,by simp⟩⟩,.of_keep i.keep,i.os,.of_eq (i.gens.trans hg)⟩
   ·first | exact raisesW_false (by wrow_none_raised) cls | rfl
   ·first | wrow_post | rfl
  | _=>exact z.elim)
