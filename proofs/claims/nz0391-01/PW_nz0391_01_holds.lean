import PyProof.Rows.All
import Wide.All
import OpenK.AllK
import Wide.FinOn
import Lean
import PySem.Challenge.RW_nz0391_01
open Nat renaming le_trans->ac,le_add_left->af,lt_of_lt_of_le->ai,lt_of_le_of_lt->au,le_refl->aw,le_add_right->ax,le_of_eq->aC,le_of_lt->aG,add_le_add_left->aJ,lt_succ_self->aK,le_of_lt_succ->aQ,le_of_ble_eq_true->aT,zero_le->a0,le_antisymm->a_,lt_trans->bz,add_le_add_right->bA,succ_le_of_lt->bB,mul_le_mul_left->bF,succ_le_succ->bJ,lt_succ_of_le->bO,ne_of_lt->bP,lt_or_ge->bV,add_right_comm->bW,le_of_not_lt->b0,ne_of_gt->cj,lt_irrefl->cC,add_le_add->cG,lt_of_le_of_ne->cV,succ_pos->dN,add_sub_of_le->dS,min_eq_left->dW,eq_zero_or_pos->d4,sub_lt_sub_left->d9,not_lt_zero->ef,sub_le->eE,not_lt->eG,pow_le_pow_right->fG,add_assoc->fP,lt_of_not_le->gc,le_succ->gm,sub_add_cancel->gw,le_of_sub_eq_zero->gN,min_le_right->ic,add_lt_add_left->iw,min_le_left->iJ,lt_succ_of_lt->jg,le_sub_one_of_lt->jR,le_sub_of_add_le->jS,succ_add->kE,sub_self->kF,add_zero->kG,add_comm->kH,sub_pos_of_lt->lE,lt_trichotomy->lF,sub_lt->nk,sub_le_iff_le_add'->np,le_div_iff_mul_le->n7,add_lt_of_lt_sub'->n8,sub_le_of_le_add->oQ,mul_le_mul_right->oR,eq_or_lt_of_le->qD,add_sub_cancel->qE,le_of_succ_le->ri,succ_lt_succ->sL,le_min->vz,add_lt_add_of_lt_of_le->vA,add_lt_add_of_le_of_lt->vB,lt_add_right_iff_pos->xu,sub_add_min_cancel->zp,pow_succ->zq,min_self->zr,eq_zero_of_le_zero->zt,lt_of_sub_eq_succ->AR,two_mul->Ct,succ->Cu,pred_lt->Cv,mul_two->Cw,lt_sub_of_add_lt->Cy,le_add_of_sub_le->Cz,sub_le_sub_left->CN,not_le->Gf,mod_lt->Gg,le_succ_of_le->GE,sub_sub_self->IM,succ_pred->L_,zero_add->O2,min_comm->O3,pred->TP
open Eq renaming trans->ae,symm->dc
open List renaming length_map->ag,mem_append_right->ak,getElem?_eq_some_iff->al,mem_of_getElem?->am,mem_singleton->aq,mem_append_left->av,getElem?_map->ay,mem_append->az,length_append->aA,getElem?_eq_getElem->aB,map_append->aE,mem_map->aF,mem_iff_getElem?->aL,mem_cons->aM,mem_singleton_self->aN,map_cons->aU,length_singleton->aW,nodup_cons->aY,size_toArray->bc,range->bk,take_length->bn,mem_map_of_mem->bo,getD_eq_getElem?_getD->bu,lookup_cons->bv,take_add_one->bw,mem_filter->bx,sublist_cons_self->bC,getElem?_eq_none->bD,map_map->bI,mem_range->bK,length_take->bL,length_cons->bM,getElem?_take->bS,all_eq_true->bZ,append_nil->cw,pairwise_map->cE,take_subset->cH,length_set->cJ,getElem?_append_left->cK,append_assoc->cN,filter_cons->cO,nodup_append->cU,pairwise_iff_getElem->cW,perm_append_comm_assoc->cY,getElem?_append_right->c8,map_congr_left->dq,getElem?_set_self->dw,not_mem_nil->dB,any_eq_true->dK,filterMap_cons->dO,eq_nil_of_length_eq_zero->dR,zip_cons_cons->dY,filter_append->dZ,nodup_nil->eJ,length_range->eT,pairwise_cons->fh,take_append_drop->fj,contains_iff_mem->fk,foldl_cons->fC,getElem?_cons_succ->fW,Nodup->gp,of_mem_zip->gB,length_filter_le->gF,take_sublist->gP,getElem?_inj->gQ,foldl_append->gR,mem_cons_of_mem->gX,nodup_range->g_,getElem_mem->hO,map_eq_nil_iff->il,length_pos_iff->im,map_take->iD,range_succ->iG,find?_cons->iH,pairwise_singleton->iS,take_take->i6,getElem?_toArray->jq,perm_middle->ju,ext_getElem->jv,pairwise_append->jJ,length_nil->j1,forIn_cons->j2,any_map->ky,zip_map_right->kM,mem_cons_self->kO,exists_cons_of_ne_nil->kP,getElem?_zip_eq_some->lb,length->lz,map->l7,length_drop->l8,getElem?_cons_zero->l9,take_of_length_le->mz,map_nil->mB,length_pos_of_mem->mC,length_eq_one_iff->mD,all_map->mE,filter_map->nq,map_eq_cons_iff->ou,getElem?_set_ne->ox,toList_toArray->o5,length_flatMap->o6,getElem?_range->o7,filter_sublist->o8,filter_eq_self->o9,getElem?_drop->qc,mem_flatMap->rD,isEmpty_iff->rE,map_id->sM,head?_drop->sQ,dropLast_concat_getLast->sR,mem_or_eq_of_mem_set->vC,getElem?_eq_none_iff->vD,drop_eq_getElem_cons->vE,zip_map'->vO,sum_cons->vP,length_erase_of_mem->vQ,all_cons->vR,set_set->xH,filter_eq_nil_iff->xI,drop_of_length_le->xJ,perm_append_comm->zu,mem_of_mem_take->AS,mem_of_mem_drop->AT,mem_erase_of_ne->AU,mem_filterMap->CO,map_filterMap->CP,getElem_range->CQ,filterMap_nil->CR,map_inj_left->Gh,ext_getElem?->Gj,any_eq_false->Gk,zipIdx_cons->GG,mem_reverse->GH,getElem_map->GI,zipIdx_nil->IP,head?_cons->IQ,tail_drop->JF,forIn_nil->JG,find?_map->JH,map_drop->LH,any_cons->LI,map_set->Ma,lookup->O4,getD->RT
open PySem renaming wpAny_bind->aj,wpAny_pure->aD,Shared->aO,compareOp->bm,wpAny->br,model->bR,sizeLine_eq->b_,Comprehension->ce,wpAny_holding->cR,foldedSetIterable->da,starEach->dj,mainGlobals->du,cellsFrom->dz,valueAt->dE,wpAny_mono->dG,stored->dM,wpAny_call_entry->d6,NameKind->eH,IsTupleKey->eM,Around->eN,wpAny_standAt->eR,codeAny_mono->eS,Builtin->eU,wpAny_setState_of->e_,backTo->fg,binaryOp->fB,holding->fF,standAt->fT,bootBuiltins->fU,eval->gb,wpAny_seqItems->gr,wpAny_callSpecial?_slot->gt,wpAny_askSetting->gu,wpAny_field->gD,letOwnedTupleGo->gU,Flow->ig,Params->iu,swapsWith->iE,intKind->iF,wpAny_onRaise->iW,behindInMarks->iX,codeAny->iZ,wpAny_setField_rec->jd,rawInt->je,pyNext->jf,World->jk,wpAny_truthy_bool->jB,wpAny_pyIter_list->jC,SetTable->jD,wpAny_rule->ki,wpAny_isInstance->kj,pushCells->km,without->kt,comprehension->ku,keywordEach->kD,wpAny_ite_split->kZ,call_meetsIn->lx,truthy->lS,sysModules->lU,callWith->lW,assignEach->lX,wpAny_newObj_type->mv,wpAny_assign_Name->mw,wpAny_newList->na,wpAny_assignInOrder_more->ng,swappedStores->nh,assign->nj,wpAny_forIn_list->nY,wpAny_Call_NameR->nZ,slicePick->n0,wpAny_specialOf->oX,codeAny_of_tree->oY,codeAny_builtin->oZ,wpAny_setField->qw,pyIter->qx,constantsAlone->qz,backToKw->qA,ZipApart->qB,IsPair->qG,getMethod->qY,pairTrees_cons_walk->rg,wpAny_attempt->rA,foldedForSure->rB,table->rC,merged->sK,slot_list_getitem->tj,relabel->tm,ofAClassStatement->tn,compTurn->tq,denote->vp,clausesOf->vq,IsZip->vT,pushCells_keeps->xq,spliced->xF,getAttr->xG,wpAny_newTuple->zi,isSubtype_type->zl,dictSetDefault->zm,checkCount->zn,wpAny_getItem_list_slice->Ck,wpAny_comprehension_free->Cm,wpAny_assignInOrder_none->Cn,attributeBase->Co,putSet_of->CF,pickOrder->CH,cLine->CJ,CmpOp->CU,wpAny_typeOf->F5,name_of_addr->F8,argsOk->Gb,Keyword->Gl,wpAny_notOrdered_dict->Gr,wpAny_eqIsQuiet_tuple->Gs,exec_Assign_Name_used->Gu,builtinLookup_eq_fast->Gv,wpAny_updateSeq_pair->IH,interactive->II,hashByValue->IJ,entryFor->IK,bindArgs->IL,wpAny_setItem_pairs->Jz,wpAny_pyIter_tuple->Lq,wpAny_eqBool_tuple->Lr,wpAny_call->Lu,wpAny_assign_Tuple->Lx,wpAny_Name->Ly,setsByText->Lz,setEntries->LA,pairTrees_nil_walk->LB,wpAny_storeSet_of->LV,wpAny_pyIter_slot->LW,unaryOp->LX,searchCouldBeSeen->LY,newList->LZ,getMethod_builtin->L4,field->L5,wpAny_getItem_of->OY,checkBuiltinCall->OZ,wpAny_loadPart'->Pw,wpAny_execs_nil->Px,wpAny_Dict_walk->Py,typeLookup_type->PA,Fin->PD,wpAny_fieldsOf->RB,wpAny_bindName->RC,wants->RD,recursionLimit->RG,newFunctionEnv->RH,letTemporaryGo->RI,isSubtype_stop->RJ,foldedIterable->RL,firstArgMember->RM,entryFor_alias->RN,Operator->RS,wpAny_release->SA,typeNameOfCut->SB,swapsWithSole->SC,signature?_of->SD,rangeSize_one->SE,plainId_quiet->SF,assignInOrder->SH,setAddHashed->TD,newDict->TG,codeAny_loop->TM,wpAny_of_eq->T4,wpAny_letGo->T6,wpAny_alloc->T7,wpAny_Slice->T8
open Bool renaming false_eq_true->aV,and_eq_true_iff->bf,false_ne_true->c9,not_eq_true'->dh,and_eq_true->dL,not_true->lH,not_false->oB,eq_false_iff->q6,or_eq_true->sT,and_self->vU,not_eq_false'->CV,and_true->LK
open Option renaming map_eq_some_iff->aX,isSome_iff_exists->cz,map_some->d8,isSome_some->iC,map->kx,isSome_map->qb,toList_some->AP,isSome_none->AQ,getD_some->CL,elim_some->CM,none_or->GC,map_map->GD
open PySem.Value renaming ref->aZ,bool->cf,none->gh,ctorIdx->ly,ctorIdx->mj,isInt->L6
open PySem.Heap renaming get?_push_of_some->bb,get?_push_size->bp,lt_size->bT,SameBut->ff,size_push->fi,get?_update_self->fu,get?_update_ne->kr,dictOf_iff->nv
open PySem.Str renaming ofString->bg,ofString->dU
open Option.some renaming inj->bq,injEq->jZ
open And renaming intro->bt
open Int renaming natAbs->bE,natCast_nonneg->bG,ofNat_lt->bQ,ofNat_le->bU,natAbs_neg->b9,le_trans->cM,lt_of_le_of_lt->dy,eq_ofNat_of_zero_le->dH,toNat_natCast->dT,neg_neg->eh,lt_of_lt_of_le->fm,le_add_of_nonneg_right->fq,sub_nonneg_of_le->fH,ofNat_inj->fQ,neg_nonpos_of_nonneg->fR,le_of_eq->ie,sub_add_cancel->iT,not_lt->jE,toNat_sub->jK,lt_iff_le_and_ne->jV,add_sub_cancel->k_,toNat->mq,zero_add->nt,lt_trans->nu,neg_le_neg->vG,natAbs_eq_natAbs_iff->xw,lt_irrefl->xx,add_lt_add_iff_left->xK,le_of_lt->zv,neg_le_of_neg_le->CA,add_le_add_right->CB,toNat_of_nonneg->CS,add_left_cancel->CT,natAbs_natCast->Gm,sub_pos_of_lt->GJ,ofNat->IR,neg_eq_zero->JJ,natAbs_eq->Mb,ne_of_gt->O6,add_comm->O7,neg_inj->PG,not_le->RV
open Array renaming getElem?_eq_getElem->cq,getElem?_toList->c_,getD->fJ,getElem?_eq_some_iff->gV,toArray_toList->jF,toList_inj->rj,getD_eq_getD_getElem?->sU,getElem?_replicate->vH,getElem?_eq_none->xB,getElem_toList->zy,forIn_toList->CC,replicate->GK
open Classical renaming byContradiction->cS,not_not->xL,em->Gn,skolem->TV
open LawfulBEq renaming eq_of_beq->df
open False renaming elim->ds
open PySem.Heap.SameBut renaming update->dI,refl->PH
open PySem.Challenge renaming rw_nz0391_01->dJ,pw_nz0391_01->ej
open PySem.EqBoolInt renaming of_rcne->ec
open Pure renaming pure->eu
open PySem.Builtin.SmallTypes renaming ownedTupleIsFree->eA,nextOf->eO,ownedTupleHandOut->kQ
open PySem.Calls renaming Name_function_global->eX,loadGlobal_builtin->lV,loadGlobal_global->to
open PySem.NameKind renaming free->fz,cell->gj
open PySem.Code renaming compLoop->fK,compStart->gY,builtin->qZ
open PySem.Obj renaming mapSeq->fO,mk->gM,putSet->gZ,data_mapDictKeys->Cq,data_mapFields->Ge
open PyProof.Rows renaming seqObj->f',News->qC,envOfC->Ga,MethodCall_->IN,Subscript_->LF,get?_update_seq->PB,entry_list_sort->PC,callWith_type->PE,tail_any->RE,slot_list_sort->RF,KskOut->RU,listUpdate_at->SG,plain_sorted->TF,entry_sorted->TK,call_abs_int->TN,seqEpoch_at->T9,kind_sorted->Ua
open PySem.W renaming cellsFrom_some->gv,methodObj->kq,findIn->ni,nsIn->pY,handedIn->qy,getL->vr,mg_none_of->zj,ksEnv->zk,takerIn->F6,keepIn->F9,instObj->F_,dictOf->LD,codeIn->RO,kas_rev->TH,fnOf->TJ,mg_of->T_,kdu_collect->Ub,callWith_of->Uc
open PyProof.Rows.F renaming plain_set_update_loop->gA,entry_set_update_loop->lD
open Ne renaming symm->ik
open PySem.F renaming slot_bool_hash->iR,slot_dict_pop->mn,slot_dict_get->mo,slot_zip_next->oy,slot_dict_setdefault->rh,slot_dict_getitem->sO,slot_list_extend->tu,slot_dict_update->tv,args_dict_pop_3->ue,entry_dict_pop->vt,entry_dict_get->vu,slot_set_iter->vL,slot_list_pop->vM,plain_set_new->vN,slot_bool_lt->xr,slot_tuple_iterator_next->xA,args_zip_next_1->JK,entry_zip_next->LJ
open PySem.Around renaming under_of_weight->iU,under_plainId->nT,frames_deeper->xM
open List.cons renaming injEq->jr,inj->sN
open Nat.succ renaming inj->jI
open PySem.ScopeKind renaming function->jQ
open List.Perm renaming swap->jT,refl->jU,filterMap->TQ,cons->TR,append_left->TS
open PySem.Heap.DictOf renaming new->lc
open ForInStep renaming yield->lG
open PySem.Builtin.Frozenset renaming updateFrom->ny,isAnySet->n9,addrOf->oV,slot0->IS,sizeOf->IT,newClass->IU,clearAll->IV
open PySem.SetTable renaming fill->n6,fresh->CK,tooFull->Ud,toList_insertAt->Ue,gaveWay->Uf,fits->Ug,below->Uh
open PySem.SeqAt.RcNeAt renaming lists->oq,tuples->Gw,none_bool->Gy,lists_lengths->Gz,bool_bool->GA
open PySem.SeqAt.EqAt renaming bool_bool->ot,same->JB,of_refs->JC,none_bool->JD
open PySem.Data renaming fields->oA,dict->oS,cls->AV,cell->RW,seq->SM
open PySem.ClassData renaming mk->oU
open Iff renaming rfl->o_
open PySem.Builtin.List renaming listLengthHint->pZ,listTooLong->PJ
open PySem.Builtin.Dict renaming keyAndDefault->qd
open List.Pairwise renaming imp_of_mem->qF,nil->O5
open PySem.PyData renaming keyHash->sP
open PySem.Heap.IsSliceOf renaming new->sS
open PySem.Builtin.Int renaming intSlot0->tz
open PySem.BindsTo renaming of_eq->tA
open List.Sublist renaming refl->vF,map->vS,append->PF
open PySem.Heap.IsList renaming push->xz,«at»->zw
open PySem.IsL renaming update->zo
open PySem.Walks renaming list->Cp
open Prod renaming mk->Gc,fst->JE
open Prod.mk renaming injEq->GB
open PySem.SeqAt.RcAt renaming tuples->JA
open PySem.IsRange renaming new->JI
open PySem.Shared renaming heap->LG
open PySem.W.RowW renaming records->L7
open PySem.MeetsSeq renaming list_pop_last->L8
open PySem.AutoSeq1 renaming list_extend_list_list_0->L9,sub_tuple_tuple->Uo
open Neg renaming neg->O0
open PySem.Builtin.Tuple renaming tupleHashOf->O8
open PySem.Builtin.Range renaming small->O9,rangeSize->O_
open PySem.Heap.IsTuple renaming push->PI
open ForIn renaming forIn->RK
open PySem.SeqAt renaming notIn_listAt->RP,in_listAt->RQ,EqAt->RR
open PySem.W.XL renaming keeps->SI
open List.Nodup renaming sublist->SJ
open PySem.W.Hook renaming val->SK,obs->SL
open PySem.DictEntry renaming refKey->TT,mk->TU
open PySem.Manifest renaming sig_set_iterator->Ui,owners->Uj
open PySem.IntMulOk renaming of_left->Uk
open Function renaming comp_def->Ul,comp->Um
open PySem.FuncData renaming mk->Un
open PySem PySem.W PyProof.Rows PySem.Calls
set_option Elab.async false
set_option linter.unusedVariables false
set_option maxRecDepth 1000000
set_option maxHeartbeats 8000000
namespace Mine
@[elab_as_elim] theorem ah{α:Sort u}{P:α->Prop}{a b:α}(h:a=b)(e:P b):P a:=h▸e
@[elab_as_elim] theorem dt{α:Sort u}{P:α->Prop}{a b:α}(h:b=a)(e:P b):P a:=h▸e
@[elab_as_elim] theorem gk{P:Prop->Prop}(h:a↔b)(e:P b):P a:=propext h▸e
theorem sV{α:Sort u}{a b c:α}(h:b=a)(e:b=c):a=c:=h▸e
@[elab_as_elim] theorem eC{α:Sort u}{P:α->Prop}[i:Decidable c]{a b:α}(h1:c->P a)(h2:¬c->P b):P (if c then a else b):=by
 by_cases h:c
 ·rw [if_pos h];exact h1 h
 ·rw [if_neg h];exact h2 h
theorem Mw{α:Sort u}[Decidable c]{a b:α}(h:¬c->b=a):(if c then a else b)=a:=by
 by_cases q:c
 ·exact if_pos q
 ·exact (if_neg q).trans (h q)
theorem nn(h:¬¬C):C:=cS h
theorem bH{α:Type u}{x:α}(h:none=some x):False:=nomatch h
theorem hV{α:Type u}{x:α}(h:some x=none):False:=nomatch h
theorem iP(h:false=true):False:=nomatch h
theorem v8(h:true=false):False:=nomatch h
theorem cI{α:Type u}(f:α->Nat){a b:α}(h:a=b)(n:Nat.beq (f a) (f b)=false):False:=by subst h;rw [Nat.beq_refl] at n;cases n
theorem sI{α:Type u}{a b:α}(h:some a=some b):b=a:=(bq h).symm
theorem xa{a b c:Nat}(h:a=b)(k:b<=c):a<=c:=h▸k
theorem xb{a b c:Nat}(h:b=a)(k:b<=c):a<=c:=h▸k
theorem xc{a b c:Nat}(h:c=b)(k:a<=b):a<=c:=h▸k
theorem xd{a b c:Nat}(h:b=c)(k:a<=b):a<=c:=h▸k
theorem ya{a b c:Nat}(h:a=b)(k:b<c):a<c:=h▸k
theorem yb{a b c:Nat}(h:b=a)(k:b<c):a<c:=h▸k
theorem yc{a b c:Nat}(h:c=b)(k:a<b):a<c:=h▸k
theorem yd{a b c:Nat}(h:b=c)(k:a<b):a<c:=h▸k
theorem yp(h:a<=c)(k:0<a):0<c:=ai k h
theorem Pg{n:Nat}(h:x.natAbs<=n):-(n:Int)<=x/\x<=n:=(Mb x).elim (λ e=>e▸⟨cM (fR (bG _)) (bG _),bU.mpr h⟩) λ e=>e▸⟨vG (bU.mpr h),cM (fR (bG _)) (bG _)⟩
theorem Kq(h:a<c)(k:b<=c):(a+b)/2<c:=Nat.div_lt_of_lt_mul (Ct c▸vA h k)
theorem Sk(h:a<=b):a<=(a+b)/2:=(n7 (by decide)).mpr ((Cw a).symm▸aJ h a)
theorem nz{x:Int}(h:1<=x.natAbs/\x.natAbs<=N):x≠0:=λ e=>cj h.1 (congrArg bE e)
theorem SP(h:1<=x.natAbs/\x.natAbs<=N):-x≠0:=λ e=>nz h (JJ.mp e)
theorem nr{N:Nat}(h:1<=x.natAbs/\x.natAbs<=N)(k:N<=1000):-1000<=x/\x<=1000:=Pg (ac h.2 k)
theorem SR(h:-1000<=x/\x<=1000):-1000<=-x/\-x<=1000:=⟨vG h.2,CA h.1⟩
theorem nm{n:Nat}(h:n<=1000000):-1000000<=(n:Int)/\(n:Int)<=1000000:=⟨cM (by decide) (bG n),bU.mpr h⟩
theorem sb(h:n-i=j+1):n-(i+1)=j:=congrArg TP h
theorem sl(h:n-i=j+1):i<n:=AR h
theorem sf(h:b<n-i):n-(i+1)<n-i:=Cv (cj (au (a0 b) h))
theorem pd(h:¬i=0)(k:i<=n):i-1<n:=ai (Cv h) k
theorem ps(h:¬i=0):i-1+1=i:=L_ h
theorem TX(h:¬i=0):i=i-1+1:=(L_ h).symm
theorem pp(h:1<=i)(k:i<=n):i-1<n:=ai (Cv (cj h)) k
theorem pc{i:Nat}(h:1<=i):(i:Int)-1=((i-1:Nat):Int):=(Int.ofNat_sub h).symm
theorem SV{l h f:Nat}(a:h-l<=f+1)(b:l<h):(l+h)/2-l<=f:=oQ (aQ (Kq (bO (af l f)) (xc (bW f 1 l).symm (Cz a))))
theorem Si{l h f:Nat}(a:h-l<=f+1):h-((l+h)/2+1)<=f:=(Nat.le_total l h).elim (λ q=>ac (CN (bJ (Sk q)) h) (Nat.pred_le_pred a)) λ q=>xa (Nat.sub_eq_zero_of_le (GE ((n7 (by decide)).mpr ((Cw h).symm▸bA q h)))) (a0 f)
theorem Pc(b:l<h):(l+h)/2<h:=Kq b (aw h)
theorem SU(b:l<h):l<=(l+h)/2:=Sk (aG b)
theorem Jb{a b c d k:Nat}(h:a+c<=b+d)(q:d<=c+k):a<=b+k:=Nat.le_of_add_le_add_right (ac h (ac (aJ q b) (aC ((congrArg (b+·) (kH c k)).trans (fP b k c).symm))))
theorem Sl(h:a+k*(b+1)<c)(q:j<=k):a+j+k*b<c:=au (ac (aC (bW a j _)) (ac (aJ q _) (aC (fP a (k*b) k)))) h
theorem Qh{b:Int}(h:a<=b):a-1<b:=Int.sub_one_lt_of_le h
theorem MB{n k:Nat}(h:(n:Int)<((k+1:Nat):Int)):n<=k:=aQ (bQ.mp h)
theorem Tg(h:a<b):2*a+1<2*b:=bF 2 h
theorem Tj(h0:c+d<=10000000)(h1:a=c)(h2:b=d):¬(a+b>16777216):=eG.mpr (ac (h1▸h2▸h0) (by decide))
theorem Ti(h0:c+d<=10000000)(h1:a=c)(h2:b=d):a+b<=16777216+1:=ac (h1▸h2▸h0) (by decide)
theorem Sm(h0:c+d<=10000000)(h1:a=c)(h2:b=d):a+b<=16777216:=ac (h1▸h2▸h0) (by decide)
theorem Th(h0:c+d<=1000000)(h1:a=c)(h2:b=d):a+b<=16777216:=ac (h1▸h2▸h0) (by decide)
theorem N9(h0:a+3*(b+1)<c):a+1+3*b<c:=Sl h0 (by decide)
theorem NZ(h0:a+10*(b+1)<c):a+3+10*b<c:=Sl h0 (by decide)
theorem Re(h0:b<=1):a+b+3*c<=a+3*(c+1):=ac (aC (bW a b _)) (ac (aJ (ac h0 (by decide)) _) (aC (fP a (3*c) 3)))
theorem Rd(h0:b<=5):a+b+10*c<=a+10*(c+1):=ac (aC (bW a b _)) (ac (aJ (ac h0 (by decide)) _) (aC (fP a (10*c) 10)))
theorem Rc(h0:a<=b+1)(h1:b<=900):a<=1000:=ac h0 (ac (bJ h1) (by decide))
theorem Rb(h0:mq a<b):a<((b:Nat):Int):=dy (Int.self_le_toNat a) (bQ.mpr h0)
theorem Ra:a+((b+1:Nat):Int)=a+((b:Nat):Int)+1:=(Int.add_assoc a b 1).symm
theorem Q_:((a:Nat):Int)-((b+1:Nat):Int)=((a:Nat):Int)-((b:Nat):Int)-1:=(Int.sub_sub a b 1).symm
theorem Q9:a+((0:Nat):Int)=a:=Int.add_zero a
theorem Q8:((a:Nat):Int)-((0:Nat):Int)=((a:Nat):Int):=Int.sub_zero a
theorem MF:2*a=a*2:=Nat.mul_comm 2 a
theorem Q7{a b c d e f:Nat}(h0:b<2)(h1:c=2*min d e)(h2:a=c+min b f)(h3:e<=1000):a<=3000:=ac (xa h2 (cG (xa h1 (bF 2 (ac (ic d e) h3))) (ac (iJ b f) (aG h0)))) (by decide)
theorem Q6(h0:b<=c+d/\a<=e+d)(h1:d<=10000)(h2:e<=10000):1+a<=1000000:=ac (aJ (ac h0.2 (cG h2 h1)) 1) (by decide)
theorem Q5(h0:b<=a)(h1:¬(a=b)):(0:Nat)<a:=au (a0 b) (cV h0 λ e=>h1 e.symm)
theorem Q4(h0:b<c)(h1:a<=b)(h2:¬(b=a)):a<=b-1/\b-1<c:=⟨jR (cV h1 (λ e=>h2 e.symm)),au (eE b 1) h0⟩
theorem Q3{a b:Nat}(h0:a<=b)(h1:¬(b=a)):a<b:=cV h0 λ e=>h1 e.symm
theorem QZ(h0:b<50)(h1:a<=1+b):a<=1000000:=ac h1 (ac (aJ (aG h0) 1) (by decide))
theorem QY(h0:c<50)(h1:b<=0+d)(h2:a<=1+1000*c)(h3:d<=1000):a+b<=1000000:=ac (cG (ac h2 (aJ (bF 1000 (aG h0)) 1)) (ac h1 (aJ h3 0))) (by decide)
theorem QX(h0:c<=0+d)(h1:a<=b+c)(h2:d<=1000):a<=b+1000:=ac h1 (aJ (ac h0 (aJ h2 0)) b)
theorem QW(h0:(0:Int)<=b/\b<=1000)(h1:a=b\/a=-b):(-1000:Int)<=a/\a<=1000:=h1.elim (λ e=>e▸⟨cM (by decide) h0.1,h0.2⟩) (λ e=>e▸⟨vG h0.2,cM (fR h0.1) (by decide)⟩)
theorem QV(h0:a<=900):(-1000000:Int)<=((a:Nat):Int)+1/\((a:Nat):Int)+1<=1000000:=⟨cM (by decide) (bG (a+1)),bU.mpr (ac (bJ h0) (by decide))⟩
theorem QU{a c:Int}(h0:(0:Int)<=c)(h1:bE a=bE (1+c))(h2:c<((b:Nat):Int)):(1:Nat)<=bE a/\bE a<=b:=by obtain ⟨n,rfl⟩:=dH h0;have e:a.natAbs=1+n:=h1;exact e▸⟨ax 1 n,kH n 1▸bQ.mp h2⟩
theorem QT{a b c d:Nat}(h0:a+2*c<=100000)(h1:d<c)(h2:b=d):a+2*b<=100000:=ac (aJ (bF 2 (xa h2 (aG h1))) a) h0
theorem QR{a b c d:Nat}(h0:a+2*c<=100000)(h1:d<c)(h2:b=d):a+2*b+1<=100000:=ac (aJ (aG (Tg (ya h2 h1))) a) h0
theorem QP(h0:b+a=c)(h1:b<c):a=a-1+1:=(gw (xu.mp (h0.symm▸h1))).symm
theorem QO(h0:a+b=c)(h1:a<c):a+1+(b-1)=c:=(fP a 1 (b-1)).trans ((congrArg (a+·) (dS (xu.mp (h0.symm▸h1)))).trans h0)
theorem ME{a b c:Nat}(h0:b=c)(h1:a=b)(h2:c<=100):a<=10000000:=xa h1 (xa h0 (ac h2 (by decide)))
theorem QN{a b c d:Nat}(h0:c=d)(h1:a=c)(h2:d<=100):a-b+min b a<=1000000:=xa (O3 b a▸zp a b) (xa (h1.trans h0) (ac h2 (by decide)))
theorem QM{a b:Nat}:a-b+min b a=a:=O3 b a▸zp a b
theorem QL{a b c d:Nat}(h0:b=c)(h1:d=b)(h2:a=d)(h3:c<=100):a<=10000000:=xa h2 (xa h1 (xa h0 (ac h3 (by decide))))
theorem QK{a b c d e:Nat}(h0:c=d)(h1:e=c)(h2:a=e)(h3:d<=100):a+min b a<=1000000:=ac (cG (xa h2 (xa h1 (xa h0 h3))) (ac (ic b a) (xa h2 (xa h1 (xa h0 h3))))) (by decide)
theorem QJ(h0:d=c)(h1:a=d):a+min b a<=2*c:=ac (cG (aw a) (ic b a)) (aC (by rw [h1,h0,Ct]))
theorem MD{a:Int}{b:Nat}(h0:(1:Nat)<=bE a/\bE a<=b)(h1:b<=5):(-1000:Int)<=a/\a<=1000:=Pg (ac h0.2 (ac h1 (by decide)))
theorem QI(h0:b<c)(h1:a<=d+18*b)(h2:c<=16)(h3:d<=20000):a<=30000:=ac h1 (ac (cG h3 (bF 18 (ac (aG h0) h2))) (by decide))
theorem QH(h0:a<=5):(-1000000:Int)<=((a:Nat):Int)+1/\((a:Nat):Int)+1<=1000000:=⟨cM (by decide) (bG (a+1)),bU.mpr (ac (bJ h0) (by decide))⟩
theorem MC:1+((a:Nat):Int)=((a+1:Nat):Int):=congrArg IR (kH 1 a)
theorem QG{a b c d:Nat}(h0:a+40<=100000)(h1:c<d)(h2:b=c)(h3:d<=16):a+2*b+2<=100000:=ac (aJ (ac (bJ (bJ (bF 2 (xa h2 (ac (aG h1) h3))))) (by decide)) a) h0
theorem QF(h0:b<c)(h1:a<=d+18*b)(h2:c<=16)(h3:d<=20000):a+17<=40000:=ac (bA (ac h1 (cG h3 (bF 18 (ac (aG h0) h2)))) 17) (by decide)
theorem QE(h0:a<=2*b)(h1:b<=4):a<60:=au (ac h0 (bF 2 h1)) (by decide)
theorem QD(h0:a<=b+18*c)(h1:c<=16)(h2:b<=20000):a<=30000:=ac h0 (ac (cG h2 (bF 18 h1)) (by decide))
theorem QC(h0:a<=b+18*c)(h1:c<=16):a<=b+1000:=ac h0 (aJ (ac (bF 18 h1) (by decide)) b)
theorem QB{a b c:Nat}(h0:b=c)(h1:c<=16):a+2*b<=a+40:=aJ (ac (bF 2 (xa h0 h1)) (by decide)) a
theorem QA(h0:b<3)(h1:a<=60+40*b):a+40<=100000:=ac (bA (ac h1 (aJ (bF 40 (aG h0)) 60)) 40) (by decide)
theorem Qz(h0:b<3)(h1:a<=10+1100*b):a<=20000:=ac h1 (ac (aJ (bF 1100 (aG h0)) 10) (by decide))
theorem Qy(h0:c<=10+1100*b)(h1:a<=c+1000):a+17<=10+1100*(b+1):=ac (bA (ac h1 (bA h0 1000)) 17) (ac (aC (fP (10+1100*b) 1000 17)) (ac (aJ (by decide) _) (aC (fP 10 (1100*b) 1100))))
theorem Qx(h0:b<=32)(h1:a<=b):a<64:=au (ac h1 h0) (by decide)
theorem Qw{a:Int}(h0:(3:Nat)<=b)(h1:a=1\/a=-1):(1:Nat)<=bE a/\bE a<=b:=h1.elim (λ e=>e▸⟨aw 1,ac (by decide) h0⟩) (λ e=>e▸⟨aw 1,ac (by decide) h0⟩)
theorem Qv{a:Int}(h0:(3:Nat)<=b)(h1:a=-2):(1:Nat)<=bE a/\bE a<=b:=h1▸⟨by decide,ac (by decide) h0⟩
theorem Qu(h0:a<=3310):a+1+1<=30000:=ac (bJ (bJ h0)) (by decide)
theorem Qt(h0:((b:Nat):Int)<7)(h1:c<b)(h2:a<=2+7*c):a<=100000:=ac h2 (ac (aJ (bF 7 (aG (bz h1 (bQ.mp h0)))) 2) (by decide))
theorem Qs{a b c d e:Nat}(h0:((c:Nat):Int)<3)(h1:((d:Nat):Int)<7)(h2:1+c=b)(h3:e<d)(h4:a<=2+7*e):a+1+2*b<=100000:=ac (cG (bJ (ac h4 (aJ (bF 7 (aG (bz h3 (bQ.mp h1)))) 2))) (bF 2 (xb h2 (aJ (aG (bQ.mp h0)) 1)))) (by decide)
theorem Qr{a b c d:Nat}(h0:((d:Nat):Int)<3)(h1:1+d=b)(h2:a<=2+7*c):a+1+2*b<=2+7*(c+1):=ac (cG (bJ h2) (bF 2 (xb h1 (aJ (MB h0) 1)))) (aC (fP 2 (7*c) 7))
theorem Qq{a b:Nat}(h0:((b:Nat):Int)<7)(h1:a<=2+7*b):a<=44:=ac h1 (aJ (bF 7 (MB h0)) 2)
theorem Kr(h0:(3:Nat)<=a)(h1:a<=4):a=3\/a=4:=(Nat.lt_or_eq_of_le h1).imp (λ q=>a_ (aQ q) h0) id
theorem Qp(h0:(8:Int)<=a):(0:Int)<a-1:=GJ (fm (by decide) h0)
theorem Qo(h0:(0:Int)<=a):1+a=((mq (1+a):Nat):Int):=(CS (Int.add_nonneg (by decide) h0)).symm
theorem Qn(h0:(0:Int)<=a):(1:Nat)<=mq (1+a):=Int.lt_toNat.mpr (fm (by decide:(0:Int)<1) (fq h0))
theorem Qm(h0:a<=4):(-1000000:Int)<=((a:Nat):Int)+1/\((a:Nat):Int)+1<=1000000:=⟨cM (by decide) (bG (a+1)),bU.mpr (ac (bJ h0) (by decide))⟩
theorem Ql(h0:a<b)(h1:b<=4):1+((a:Nat):Int)-1<=1000000:=cM (Int.sub_le_self _ (by decide)) (bU.mpr (ac (aJ (aG (ai h0 h1)) 1) (by decide)))
theorem Qk:mq (1+((a:Nat):Int)-1)=a:=congrArg mq ((congrArg (·-1) (O7 1 a)).trans (k_ a 1))
theorem Qj(h0:(0:Nat)<a):((a:Nat):Int)≠0:=λ e=>cj h0 (fQ.mp e)
theorem Oc(h0:(-1000:Int)<=a/\a<=1000):(0:Int)<=((bE a:Nat):Int)/\((bE a:Nat):Int)<=1000:=⟨bG _,(Mb a).elim (λ e=>cM (ie e.symm) h0.2) λ e=>cM (ie (Int.eq_neg_comm.mp e)) (CA h0.1)⟩
theorem Ob(h0:d=b-a)(h1:a<=b-c)(h2:¬(((d:Nat):Int)>((c:Nat):Int))):a=b-c:=a_ h1 (np.mpr (Nat.sub_le_iff_le_add.mp (h0▸bU.mp (jE.mp h2))))
theorem Oa(h0:b<2)(h1:a<=90000+b):a<100000:=au (ac h1 (aJ (aG h0) 90000)) (by decide)
theorem N_:((a+1:Nat):Int)-1=((a:Nat):Int):=k_ a 1
theorem N8(h0:b<=40000)(h1:a<=40001):a+1+(b-(c+1))<=100000:=ac (cG (bJ h1) (ac (eE ..) h0)) (by decide)
theorem N7(h0:a<b):a+1<=min (a+1) b+c:=ac (vz.mpr ⟨aw _,h0⟩) (ax ..)
theorem N6{a b c d e:Nat}(h0:a=d)(h1:c=e)(h2:d<=b+e):a<=b+c:=xa h0 (h1▸h2)
theorem N5(h0:c<a+2)(h1:b<c)(h2:a<=b):a=b:=a_ h2 (aQ (ai h1 (aQ h0)))
theorem NY(h0:c<b+2)(h1:a<c)(h2:a>=b):a=b:=a_ (aQ (ai h1 (aQ h0))) h2
theorem NX{a b:Int}(h0:-a=-b)(h1:bE a≠bE b):False:=h1 (congrArg bE (PG.mp h0))
theorem NW(h0:a+1*(e+1)<=c)(h1:b<=e):a+b<c+d:=ai (iw (au h1 ((Nat.one_mul (e+1)).symm▸aK e)) a) (ac h0 (ax c d))
theorem NV{a b c d e:Nat}(h0:a+b<=c+d)(h1:e<16)(h2:d<=b+e)(h3:c<=30000):a<=40000:=ac (Jb h0 h2) (ac (cG h3 (aG h1)) (by decide))
theorem Et{a b c d e:Nat}(h0:a+b<=c+d)(h1:e<16)(h2:d<=b+e)(h3:c<=30000):a<90000:=au (Jb h0 h2) (ai (vB h3 h1) (by decide))
theorem NU{a b c d e:Nat}(h0:a+b<=c+d)(h1:e<16)(h2:d<=b+e)(h3:c<=30000):a<=80000:=ac (Jb h0 h2) (ac (cG h3 (aG h1)) (by decide))
theorem Ji(h0:b<=5)(h1:a<=b):a<90000:=au (ac h1 h0) (by decide)
theorem NT{a b c d:Nat}(h0:c<16)(h1:a=d)(h2:d<=b+c):a+1<=b+16:=bB (ya h1 (au h2 (iw h0 b)))
theorem NR(h0:a+b<=c+e)(h1:d=e):a+b<=c+(d+1):=ac h0 (aJ (ac (aC h1.symm) (gm d)) c)
theorem NQ(h0:a+b<=c+e)(h1:d=e):a+1+b<=c+(d+1):=ac (aC (kE a b)) (bJ (ac h0 (aJ (aC h1.symm) c)))
theorem NP(h0:a+2<=b):min a b=a:=dW (ac (ax a 2) h0)
theorem NO{a b c:Nat}(h0:a<b):a<b+c:=ai h0 (ax b c)
theorem NM{a b c d:Nat}(h0:b=c+1)(h1:c=d)(h2:a<=d):a<=b:=ac h2 (xb h1 (xc h0 (gm c)))
theorem NL{a b c d e:Nat}(h0:c<16)(h1:a=d+1)(h2:d=e)(h3:e<=b+c):a<=b+16:=xa (h1.trans (congrArg Cu h2)) (ac (bJ h3) (aJ h0 b))
theorem NK(h0:e+b<=c+f)(h1:d=g+1)(h2:g=f)(h3:i=e)(h4:a<=i+1):a+b<=c+d:=ac (bA (h3▸h4) b) (ac (aC (kE e b)) (ac (bJ h0) (aC (congrArg (c+·) (h1.trans (congrArg Cu h2)).symm))))
theorem NJ(h0:a+b<=c+e)(h1:d=f+1)(h2:f=e):a+1+b<=c+d:=ac (aC (kE a b)) (ac (bJ h0) (aC (congrArg (c+·) (h1.trans (congrArg Cu h2)).symm)))
theorem NI{a b c d e:Nat}(h0:a<=c+d):min a b<=c+(d+e):=ac (iJ a b) (ac h0 (aJ (ax d e) c))
theorem NH{a b c d e f g:Nat}(h0:d<c)(h1:a=e+1)(h2:e=f)(h3:f<=b+g)(h4:g<=d):a<=b+c:=xa (h1.trans (congrArg Cu h2)) (ac (bJ (ac h3 (aJ h4 b))) (aJ h0 b))
theorem NG{a b c d:Nat}(h0:c<16)(h1:a=d)(h2:d<=b+c):a<=b+16:=xa h1 (ac h2 (aJ (aG h0) b))
theorem Jh{a b c d e:Nat}(h0:a+b<=c+e)(h1:d=e):a+b<=c+d:=ac h0 (aJ (aC h1.symm) c)
theorem NF{a b c d e f:Nat}(h0:a=d)(h1:d<=b+e)(h2:e<=f)(h3:f<=c):a<=b+c:=xa h0 (ac h1 (aJ (ac h2 h3) b))
theorem ND{a b c d:Nat}(h0:c<16)(h1:a=d)(h2:d<=b+c):a<b+16:=ya h1 (au h2 (iw h0 b))
theorem NB(h0:a<=b+c)(h1:b<=1000)(h2:c<=5):a<90000:=au (ac h0 (cG h1 h2)) (by decide)
theorem NA(h0:b<=5)(h1:a<=b):a<=50:=ac h1 (ac h0 (by decide))
theorem Nz(h0:b<=5)(h1:a<=b):a<=1000:=ac h1 (ac h0 (by decide))
theorem Es{a b c d e:Nat}(h0:a+c<=b+d)(h1:e<16)(h2:d<=c+e):a<=b+16:=ac (Jb h0 h2) (aJ (aG h1) b)
theorem Jg{a b c d e:Nat}(h0:a+c<=b+d)(h1:e<16)(h2:d<=c+e):a<=b+17:=ac (Jb h0 h2) (aJ (ac (aG h1) (by decide)) b)
theorem Ny{a b c d e:Nat}(h0:a+c<=b+d)(h1:e<16)(h2:d<=c+e):a+1<=b+17:=bJ (ac (Jb h0 h2) (aJ (aG h1) b))
theorem Nx{a b:Nat}(h0:a<=b):a<=min a b:=vz.mpr ⟨aw a,h0⟩
theorem Nw(h0:b≠-a):a≠-b:=λ e=>h0 ((eh b).symm.trans (congrArg O0 e).symm)
theorem Nv{a b:Int}(h0:bE a=bE b)(h1:b≠-a)(h2:a≠b):False:=(xw.mp h0).elim h2 (λ e=>h1 ((eh b).symm.trans (congrArg O0 e).symm))
theorem Jf{a:Int}{b:Nat}(h0:(1:Nat)<=bE a/\bE a<=b)(h1:b<=60):(-1000:Int)<=a/\a<=1000:=Pg (ac h0.2 (ac h1 (by decide)))
theorem Nu(h0:a<b):(1:Int)<=((a:Nat):Int)+1/\((a:Nat):Int)+1<=((b:Nat):Int):=⟨bU.mpr (af 1 a),bU.mpr h0⟩
theorem Nt{b:Nat}(h0:(1:Int)<=a/\a<=((b:Nat):Int)):mq (a-1)<b:=(Int.toNat_lt (fH h0.1)).mpr (Qh h0.2)
theorem Nr(h0:(1:Int)<=a/\a<=((b:Nat):Int)):((mq (a-1):Nat):Int)+1=a:=(congrArg (·+1) (CS (fH h0.1))).trans (iT a 1)
theorem Er{a b:Int}(h0:((bE a:Nat):Int)-1=((bE b:Nat):Int)-1):bE a=bE b:=fQ.mp ((iT _ 1).symm.trans ((congrArg (·+1) h0).trans (iT _ 1)))
theorem Ep{a:Int}{b:Nat}(h0:(1:Nat)<=bE a/\bE a<=b):(0:Int)<=((bE a:Nat):Int)-1/\((bE a:Nat):Int)-1<((b:Nat):Int):=⟨fH (bU.mpr h0.1),Qh (bU.mpr h0.2)⟩
theorem Nq(h0:a<c)(h1:b=c):a<2+(b-2):=ai (h1▸h0) (np.mp (aw (b-2)))
theorem Np(h0:(2:Nat)<=a)(h1:a<2+(b-2)):a<b:=gc λ q=>eG.mpr (Nat.sub_le_sub_right q 2) (Nat.sub_lt_left_of_lt_add h0 h1)
theorem No(h0:-a=b):a=-b:=(eh a).symm.trans (congrArg O0 h0)
theorem Je{a:Int}{b:Nat}(h0:(1:Nat)<=bE a/\bE a<=b)(h1:b<=900):(-1000:Int)<=a/\a<=1000:=Pg (ac h0.2 (ac h1 (by decide)))
theorem Nn(h0:b<=900)(h1:a<=b):a<90000:=au (ac h1 h0) (by decide)
theorem Nm{a b c d:Nat}(h0:a<b+1/\c=d)(h1:¬(b=a)):a<b:=cV (aQ h0.1) (λ e=>h1 e.symm)
theorem Jd(h0:a<b+1)(h1:¬(b=a)):a<b:=cV (aQ h0) λ e=>h1 e.symm
theorem Nl{a b:Int}(h0:a-1=b-1):a=b:=(iT a 1).symm.trans ((congrArg (·+1) h0).trans (iT b 1))
theorem Nk{a c:Int}{b:Nat}(h0:((bE c:Nat):Int)=a)(h1:(1:Nat)<=bE c/\bE c<=b):(0:Int)<=a-1/\a-1<((b:Nat):Int):=h0▸⟨fH (bU.mpr h1.1),Qh (bU.mpr h1.2)⟩
theorem Nj{a b c d:Nat}(h0:b<c)(h1:c=d)(h2:b=d):a+1=1:=(bP h0 (h2.trans h1.symm)).elim
theorem Ni{a b c d:Nat}(h0:c+1<=d)(h1:d=0):a<b:=absurd (h1▸h0) (Nat.not_succ_le_zero c)
theorem Nh{a b c d:Nat}(h0:c+1<=d)(h1:d<=c):a<b:=absurd h0 (Gf.mpr (bO h1))
theorem Ng{a b c d e:Nat}(h0:c<d)(h1:e=d)(h2:e<=c):a<b:=absurd h0 (eG.mpr (h1▸h2))
theorem Nf{a b c d e:Nat}(h0:c<d)(h1:e=d)(h2:e<=c):a<=b:=absurd h0 (eG.mpr (h1▸h2))
theorem Nd(h0:a≠0):-a≠0:=λ e=>h0 (JJ.mp e)
theorem Nc{a:Prop}(h0:(0:Nat)<b)(h1:c=0)(h2:c=d)(h3:b<=d):a:=absurd h0 (eG.mpr (ac h3 (aC (h2.symm.trans h1))))
theorem Ai{a b:Int}(h0:b≠a)(h1:¬(b<a)):a<b:=jV.mpr ⟨jE.mp h1,h0.symm⟩
theorem Nb{a b:Int}(h0:c<1)(h1:d<c):a<b:=absurd (ai h1 (aQ h0)) (ef d)
theorem Na(h0:(2:Nat)<=b)(h1:a<=1+(b-1)):a-1<b:=au (np.mpr h1) (nk (aG h0) (by decide))
theorem M'{a b:Nat}(h0:(2:Nat)<=b)(h1:a<=1+1+(b-(1+1))):a+(b-a)<=b:=aC (dS (xc (dS h0).symm h1))
theorem M_(h0:(2:Nat)<=c)(h1:b=c)(h2:a<=1+1+(c-(1+1))):a<=b:=ac h2 (aC ((dS h0).trans h1.symm))
theorem M9{e f:Int}(h0:(2:Nat)<=b)(h1:c<=a/\a<=c+(b-c)/\d/\(a<c+(b-c)->e<f))(h2:c<=1+1+(b-(1+1))):a<=b:=ac h1.2.1 (aC (dS (xc (dS h0).symm h2)))
theorem Jc(h0:d<c)(h1:a<=b)(h2:b<=d):(a+b)/2<c:=Kq (au (ac h1 h2) h0) (aG (au h2 h0))
theorem M8(h0:a<=b):a<=(a+b)/2:=(n7 (by decide)).mpr ((Cw a).symm▸aJ h0 a)
theorem M7(h0:a<=b)(h1:b<=c):(a+b)/2<=c:=Nat.div_le_of_le_mul ((Ct c).symm▸cG (ac h0 h1) h1)
theorem M6{a b c:Nat}(h0:b-a<=c+1):(a+b)/2-a<=c:=oQ (aQ (Kq (bO (af a c)) (xc (bW c 1 a).symm (Cz h0))))
theorem M5{a b c:Nat}(h0:a=(b+c)/2)(h1:c<=a)(h2:¬(b>=c)):False:=eG.mpr h1 (ya h0 (Kq (gc h2) (aw c)))
theorem M4(h0:¬(a>=b)):(a+b)/2+1<=b:=Kq (gc h0) (aw b)
theorem M3{a b c:Nat}(h0:c<a)(h1:c=b):¬(a=b):=λ e=>bP h0 (h1.trans e.symm)
theorem M2(h0:c<b)(h1:c=a):a<=b-1:=jR (h1▸h0)
theorem M1{a b c d:Nat}(h0:b<d)(h1:d=a):¬(a<b/\b<=c):=λ q=>Nat.lt_asymm (h1▸h0) q.1
theorem M0(h0:c<a/\a<=d)(h1:a<b):a-1<b-1:=Nat.sub_lt_sub_right (bB (au (a0 _) h0.1)) h1
theorem MZ(h0:a<b/\b<=c)(h1:d<b)(h2:d>=b-1)(h3:¬(a<d/\d<=c))(h4:¬(d=a)):False:=h3 ⟨cV (ac (jR h0.1) h2) (λ e=>h4 e.symm),ac (aG h1) h0.2⟩
theorem MY(h0:a<b+1)(h1:c<=b)(h2:¬(c<a/\a<=b))(h3:¬(a=c)):a<b:=cV (aQ h0) λ e=>h2 ⟨cV (e▸h1) (λ q=>h3 q.symm),aC e⟩
theorem MX{a:Prop}(h0:(0:Int)<=b/\b<c)(h1:(0:Int)<=d/\d<c)(h2:0+b=c+d):a:=absurd (ie h2.symm) (RV.mpr (dy (ie (nt b)) (fm h0.2 (fq h1.1))))
theorem MW{a:Prop}(h0:(0:Int)<=b/\b<c)(h1:(0:Int)<=d/\d<c)(h2:c+b=0+d):a:=absurd (ie h2) (RV.mpr (dy (ie (nt d)) (fm h1.2 (fq h0.1))))
theorem MU(h0:(0:Int)<=a/\a<b)(h1:(0:Int)<=c/\c<b):0+a<b+c:=dy (ie (nt a)) (fm h0.2 (fq h1.1))
theorem MT(h0:(0:Int)<=b/\b<a)(h1:(0:Int)<=c/\c<a):¬(a+b<0+c):=jE.mpr (cM (ie (nt c)) (cM (zv h1.2) (fq h0.1)))
theorem MR{a b c:Int}:a<b↔c+a<c+b:=(xK c).symm
theorem MQ:a+b+(c+1)=a+(b+1)+c:=bW (a+b) c 1
theorem MP(h0:c+1<=c):a=b+1:=absurd h0 (Nat.not_succ_le_self c)
theorem MO{a b c:Nat}(h0:b=c+1)(h1:a=b)(h2:c<=16):a*5<31*3:=au (oR 5 (xa (h1.trans h0) (bJ h2))) (by decide)
theorem MN(h0:(0:Int)<=a/\a<((b+1:Nat):Int))(h1:a≠((b:Nat):Int)):(0:Int)<=a/\a<((b:Nat):Int):=⟨h0.1,jV.mpr ⟨Int.le_of_lt_add_one h0.2,h1⟩⟩
theorem MM(h0:(-1000:Int)<=a/\a<=1000):(0:Int)<=a+1000/\a+1000<((2001:Nat):Int):=⟨CB h0.1 1000,dy (CB h0.2 1000) (by decide)⟩
theorem ML{a b:Int}(h0:a+1000=b+1000):a=b:=(k_ a 1000).symm.trans ((congrArg (·-1000) h0).trans (k_ b 1000))
theorem MK(h0:a<b)(h1:b<=900):(0:Int)<=((a:Nat):Int)+1/\((a:Nat):Int)+1<=1000:=⟨bG (a+1),bU.mpr (ac h0 (ac h1 (by decide)))⟩
theorem MJ(h0:f<=b+1/\g<=e+1)(h1:a<=f+c)(h2:d<=g+c):a<=b+(c+1)/\d<=e+(c+1):=⟨ac h1 (ac (bA h0.1 c) (aC (kE b c))),ac h2 (ac (bA h0.2 c) (aC (kE e c)))⟩
theorem MI(h0:d<=b+1)(h1:a<=d+c):a<=b+(c+1):=ac h1 (ac (bA h0 c) (aC (kE b c)))
theorem MH(h0:c=1000)(h1:a=302)(h2:b<=25):a+3*b<c:=au (cG (aC h1) (bF 3 h2)) (h0▸by decide)
theorem MG(h0:c=9900)(h1:a<=100)(h2:b<=25):a+10*b<c:=au (cG h1 (bF 10 h2)) (h0▸by decide)
theorem Od(h:i>=n)(k:i-n=0):i=n:=a_ (gN k) h
theorem aP{C:Prop}(h:p0/\p1)(k:p0->p1->C):C:=by
 obtain ⟨h0,h1⟩:=h;exact k h0 h1
theorem ck{C:Prop}(h:p0/\p1/\p2)(k:p0->p1->p2->C):C:=by
 obtain ⟨h0,h1,h2⟩:=h;exact k h0 h1 h2
theorem dn(h0:p0)(h1:p1)(h2:p2):p0/\p1/\p2:=⟨h0,h1,h2⟩
theorem fE{C:Prop}(h:p0/\p1/\p2/\p3)(k:p0->p1->p2->p3->C):C:=by
 obtain ⟨h0,h1,h2,h3⟩:=h;exact k h0 h1 h2 h3
theorem ge(h0:p0)(h1:p1)(h2:p2)(h3:p3):p0/\p1/\p2/\p3:=⟨h0,h1,h2,h3⟩
theorem t9{C:Prop}(h:p0/\p1/\p2/\p3/\p4)(k:p0->p1->p2->p3->p4->C):C:=by
 obtain ⟨h0,h1,h2,h3,h4⟩:=h;exact k h0 h1 h2 h3 h4
theorem pF(h0:p0)(h1:p1)(h2:p2)(h3:p3)(h4:p4):p0/\p1/\p2/\p3/\p4:=⟨h0,h1,h2,h3,h4⟩
theorem t8{C:Prop}(h:p0/\p1/\p2/\p3/\p4/\p5/\p6)(k:p0->p1->p2->p3->p4->p5->p6->C):C:=by
 obtain ⟨h0,h1,h2,h3,h4,h5,h6⟩:=h;exact k h0 h1 h2 h3 h4 h5 h6
theorem Ol(h0:p0)(h1:p1)(h2:p2)(h3:p3)(h4:p4)(h5:p5)(h6:p6):p0/\p1/\p2/\p3/\p4/\p5/\p6:=⟨h0,h1,h2,h3,h4,h5,h6⟩
theorem EA{C:Prop}(h:p0/\p1/\p2/\p3/\p4/\p5/\p6/\p7/\p8)(k:p0->p1->p2->p3->p4->p5->p6->p7->p8->C):C:=by
 obtain ⟨h0,h1,h2,h3,h4,h5,h6,h7,h8⟩:=h;exact k h0 h1 h2 h3 h4 h5 h6 h7 h8
theorem Jl(h0:p0)(h1:p1)(h2:p2)(h3:p3)(h4:p4)(h5:p5)(h6:p6)(h7:p7)(h8:p8):p0/\p1/\p2/\p3/\p4/\p5/\p6/\p7/\p8:=⟨h0,h1,h2,h3,h4,h5,h6,h7,h8⟩
theorem KC{C:Prop}(h:p0/\p1/\p2/\p3/\p4/\p5/\p6/\p7/\p8/\p9/\Yb/\X_)(k:p0->p1->p2->p3->p4->p5->p6->p7->p8->p9->Yb->X_->C):C:=by
 obtain ⟨h0,h1,h2,h3,h4,h5,h6,h7,h8,h9,h10,YB⟩:=h;exact k h0 h1 h2 h3 h4 h5 h6 h7 h8 h9 h10 YB
theorem Ey(h0:p0)(h1:p1)(h2:p2)(h3:p3)(h4:p4)(h5:p5)(h6:p6)(h7:p7)(h8:p8)(h9:p9)(h10:Yb)(YB:X_):p0/\p1/\p2/\p3/\p4/\p5/\p6/\p7/\p8/\p9/\Yb/\X_:=⟨h0,h1,h2,h3,h4,h5,h6,h7,h8,h9,h10,YB⟩
theorem aS{UD:Type}{p0:UD->Prop}{C:Prop}(h:∃x0,p0 x0)(k:∀x0,p0 x0->C):C:=by
 obtain ⟨x0,h0⟩:=h;exact k x0 h0
theorem aH{UD:Type}{p0 p1:UD->Prop}{C:Prop}(h:∃x0,p0 x0/\p1 x0)(k:∀x0,p0 x0->p1 x0->C):C:=by
 obtain ⟨x0,h0,h1⟩:=h;exact k x0 h0 h1
theorem bY{UD:Type}{p0 p1:UD->Prop}(x0:UD)(h0:p0 x0)(h1:p1 x0):∃x0,p0 x0/\p1 x0:=⟨x0,h0,h1⟩
theorem cX{UD:Type}{p0 p1 p2:UD->Prop}{C:Prop}(h:∃x0,p0 x0/\p1 x0/\p2 x0)(k:∀x0,p0 x0->p1 x0->p2 x0->C):C:=by
 obtain ⟨x0,h0,h1,h2⟩:=h;exact k x0 h0 h1 h2
theorem fV{UD:Type}{p0 p1 p2:UD->Prop}(x0:UD)(h0:p0 x0)(h1:p1 x0)(h2:p2 x0):∃x0,p0 x0/\p1 x0/\p2 x0:=⟨x0,h0,h1,h2⟩
theorem pI{UD:Type}{p0 p1 p2 p3:UD->Prop}{C:Prop}(h:∃x0,p0 x0/\p1 x0/\p2 x0/\p3 x0)(k:∀x0,p0 x0->p1 x0->p2 x0->p3 x0->C):C:=by
 obtain ⟨x0,h0,h1,h2,h3⟩:=h;exact k x0 h0 h1 h2 h3
theorem oa{UD:Type}{p0 p1 p2 p3:UD->Prop}(x0:UD)(h0:p0 x0)(h1:p1 x0)(h2:p2 x0)(h3:p3 x0):∃x0,p0 x0/\p1 x0/\p2 x0/\p3 x0:=⟨x0,h0,h1,h2,h3⟩
theorem Op{UD:Type}{p0 p1 p2 p3 p4 p5:UD->Prop}{C:Prop}(h:∃x0,p0 x0/\p1 x0/\p2 x0/\p3 x0/\p4 x0/\p5 x0)(k:∀x0,p0 x0->p1 x0->p2 x0->p3 x0->p4 x0->p5 x0->C):C:=by
 obtain ⟨x0,h0,h1,h2,h3,h4,h5⟩:=h;exact k x0 h0 h1 h2 h3 h4 h5
theorem Oj{UD:Type}{p0 p1 p2 p3 p4 p5:UD->Prop}(x0:UD)(h0:p0 x0)(h1:p1 x0)(h2:p2 x0)(h3:p3 x0)(h4:p4 x0)(h5:p5 x0):∃x0,p0 x0/\p1 x0/\p2 x0/\p3 x0/\p4 x0/\p5 x0:=⟨x0,h0,h1,h2,h3,h4,h5⟩
theorem Oo{UD:Type}{p0 p1 p2 p3 p4 p5 p6:UD->Prop}{C:Prop}(h:∃x0,p0 x0/\p1 x0/\p2 x0/\p3 x0/\p4 x0/\p5 x0/\p6 x0)(k:∀x0,p0 x0->p1 x0->p2 x0->p3 x0->p4 x0->p5 x0->p6 x0->C):C:=by
 obtain ⟨x0,h0,h1,h2,h3,h4,h5,h6⟩:=h;exact k x0 h0 h1 h2 h3 h4 h5 h6
theorem Oi{UD:Type}{p0 p1 p2 p3 p4 p5 p6:UD->Prop}(x0:UD)(h0:p0 x0)(h1:p1 x0)(h2:p2 x0)(h3:p3 x0)(h4:p4 x0)(h5:p5 x0)(h6:p6 x0):∃x0,p0 x0/\p1 x0/\p2 x0/\p3 x0/\p4 x0/\p5 x0/\p6 x0:=⟨x0,h0,h1,h2,h3,h4,h5,h6⟩
theorem Kz{UD:Type}{p0 p1 p2 p3 p4 p5 p6 p7 p8 p9:UD->Prop}(x0:UD)(h0:p0 x0)(h1:p1 x0)(h2:p2 x0)(h3:p3 x0)(h4:p4 x0)(h5:p5 x0)(h6:p6 x0)(h7:p7 x0)(h8:p8 x0)(h9:p9 x0):∃x0,p0 x0/\p1 x0/\p2 x0/\p3 x0/\p4 x0/\p5 x0/\p6 x0/\p7 x0/\p8 x0/\p9 x0:=⟨x0,h0,h1,h2,h3,h4,h5,h6,h7,h8,h9⟩
theorem KB{UD:Type}{p0 p1 p2 p3 p4 p5 p6 p7 p8 p9 Yb X_:UD->Prop}{C:Prop}(h:∃x0,p0 x0/\p1 x0/\p2 x0/\p3 x0/\p4 x0/\p5 x0/\p6 x0/\p7 x0/\p8 x0/\p9 x0/\Yb x0/\X_ x0)(k:∀x0,p0 x0->p1 x0->p2 x0->p3 x0->p4 x0->p5 x0->p6 x0->p7 x0->p8 x0->p9 x0->Yb x0->X_ x0->C):C:=by
 obtain ⟨x0,h0,h1,h2,h3,h4,h5,h6,h7,h8,h9,h10,YB⟩:=h;exact k x0 h0 h1 h2 h3 h4 h5 h6 h7 h8 h9 h10 YB
theorem fM{UD UJ:Type}{p0:UD->UJ->Prop}{C:Prop}(h:∃x0 x1,p0 x0 x1)(k:∀x0 x1,p0 x0 x1->C):C:=by
 obtain ⟨x0,x1,h0⟩:=h;exact k x0 x1 h0
theorem Aq{UD UJ:Type}{p0:UD->UJ->Prop}(x0:UD)(x1:UJ)(h0:p0 x0 x1):∃x0 x1,p0 x0 x1:=⟨x0,x1,h0⟩
theorem cu{UD UJ:Type}{p0 p1:UD->UJ->Prop}{C:Prop}(h:∃x0 x1,p0 x0 x1/\p1 x0 x1)(k:∀x0 x1,p0 x0 x1->p1 x0 x1->C):C:=by
 obtain ⟨x0,x1,h0,h1⟩:=h;exact k x0 x1 h0 h1
theorem ib{UD UJ:Type}{p0 p1:UD->UJ->Prop}(x0:UD)(x1:UJ)(h0:p0 x0 x1)(h1:p1 x0 x1):∃x0 x1,p0 x0 x1/\p1 x0 x1:=⟨x0,x1,h0,h1⟩
theorem gJ{UD UJ:Type}{p0 p1 p2:UD->UJ->Prop}{C:Prop}(h:∃x0 x1,p0 x0 x1/\p1 x0 x1/\p2 x0 x1)(k:∀x0 x1,p0 x0 x1->p1 x0 x1->p2 x0 x1->C):C:=by
 obtain ⟨x0,x1,h0,h1,h2⟩:=h;exact k x0 x1 h0 h1 h2
theorem jG{UD UJ:Type}{p0 p1 p2:UD->UJ->Prop}(x0:UD)(x1:UJ)(h0:p0 x0 x1)(h1:p1 x0 x1)(h2:p2 x0 x1):∃x0 x1,p0 x0 x1/\p1 x0 x1/\p2 x0 x1:=⟨x0,x1,h0,h1,h2⟩
theorem jo{UD UJ:Type}{p0 p1 p2 p3:UD->UJ->Prop}{C:Prop}(h:∃x0 x1,p0 x0 x1/\p1 x0 x1/\p2 x0 x1/\p3 x0 x1)(k:∀x0 x1,p0 x0 x1->p1 x0 x1->p2 x0 x1->p3 x0 x1->C):C:=by
 obtain ⟨x0,x1,h0,h1,h2,h3⟩:=h;exact k x0 x1 h0 h1 h2 h3
theorem pE{UD UJ:Type}{p0 p1 p2 p3:UD->UJ->Prop}(x0:UD)(x1:UJ)(h0:p0 x0 x1)(h1:p1 x0 x1)(h2:p2 x0 x1)(h3:p3 x0 x1):∃x0 x1,p0 x0 x1/\p1 x0 x1/\p2 x0 x1/\p3 x0 x1:=⟨x0,x1,h0,h1,h2,h3⟩
theorem Oh{UD UJ:Type}{p0 p1 p2 p3 p4:UD->UJ->Prop}(x0:UD)(x1:UJ)(h0:p0 x0 x1)(h1:p1 x0 x1)(h2:p2 x0 x1)(h3:p3 x0 x1)(h4:p4 x0 x1):∃x0 x1,p0 x0 x1/\p1 x0 x1/\p2 x0 x1/\p3 x0 x1/\p4 x0 x1:=⟨x0,x1,h0,h1,h2,h3,h4⟩
theorem Jn{UD UJ:Type}{p0 p1 p2 p3 p4 p5:UD->UJ->Prop}{C:Prop}(h:∃x0 x1,p0 x0 x1/\p1 x0 x1/\p2 x0 x1/\p3 x0 x1/\p4 x0 x1/\p5 x0 x1)(k:∀x0 x1,p0 x0 x1->p1 x0 x1->p2 x0 x1->p3 x0 x1->p4 x0 x1->p5 x0 x1->C):C:=by
 obtain ⟨x0,x1,h0,h1,h2,h3,h4,h5⟩:=h;exact k x0 x1 h0 h1 h2 h3 h4 h5
theorem Ex{UD UJ:Type}{p0 p1 p2 p3 p4 p5:UD->UJ->Prop}(x0:UD)(x1:UJ)(h0:p0 x0 x1)(h1:p1 x0 x1)(h2:p2 x0 x1)(h3:p3 x0 x1)(h4:p4 x0 x1)(h5:p5 x0 x1):∃x0 x1,p0 x0 x1/\p1 x0 x1/\p2 x0 x1/\p3 x0 x1/\p4 x0 x1/\p5 x0 x1:=⟨x0,x1,h0,h1,h2,h3,h4,h5⟩
theorem wP{UD UJ:Type}{p0 p1 p2 p3 p4 p5 p6:UD->UJ->Prop}{C:Prop}(h:∃x0 x1,p0 x0 x1/\p1 x0 x1/\p2 x0 x1/\p3 x0 x1/\p4 x0 x1/\p5 x0 x1/\p6 x0 x1)(k:∀x0 x1,p0 x0 x1->p1 x0 x1->p2 x0 x1->p3 x0 x1->p4 x0 x1->p5 x0 x1->p6 x0 x1->C):C:=by
 obtain ⟨x0,x1,h0,h1,h2,h3,h4,h5,h6⟩:=h;exact k x0 x1 h0 h1 h2 h3 h4 h5 h6
theorem Og{UD UJ:Type}{p0 p1 p2 p3 p4 p5 p6:UD->UJ->Prop}(x0:UD)(x1:UJ)(h0:p0 x0 x1)(h1:p1 x0 x1)(h2:p2 x0 x1)(h3:p3 x0 x1)(h4:p4 x0 x1)(h5:p5 x0 x1)(h6:p6 x0 x1):∃x0 x1,p0 x0 x1/\p1 x0 x1/\p2 x0 x1/\p3 x0 x1/\p4 x0 x1/\p5 x0 x1/\p6 x0 x1:=⟨x0,x1,h0,h1,h2,h3,h4,h5,h6⟩
theorem KA{UD UJ:Type}{p0 p1 p2 p3 p4 p5 p6 p7 p8 p9:UD->UJ->Prop}{C:Prop}(h:∃x0 x1,p0 x0 x1/\p1 x0 x1/\p2 x0 x1/\p3 x0 x1/\p4 x0 x1/\p5 x0 x1/\p6 x0 x1/\p7 x0 x1/\p8 x0 x1/\p9 x0 x1)(k:∀x0 x1,p0 x0 x1->p1 x0 x1->p2 x0 x1->p3 x0 x1->p4 x0 x1->p5 x0 x1->p6 x0 x1->p7 x0 x1->p8 x0 x1->p9 x0 x1->C):C:=by
 obtain ⟨x0,x1,h0,h1,h2,h3,h4,h5,h6,h7,h8,h9⟩:=h;exact k x0 x1 h0 h1 h2 h3 h4 h5 h6 h7 h8 h9
theorem Ky{UD UJ:Type}{p0 p1 p2 p3 p4 p5 p6 p7 p8 p9:UD->UJ->Prop}(x0:UD)(x1:UJ)(h0:p0 x0 x1)(h1:p1 x0 x1)(h2:p2 x0 x1)(h3:p3 x0 x1)(h4:p4 x0 x1)(h5:p5 x0 x1)(h6:p6 x0 x1)(h7:p7 x0 x1)(h8:p8 x0 x1)(h9:p9 x0 x1):∃x0 x1,p0 x0 x1/\p1 x0 x1/\p2 x0 x1/\p3 x0 x1/\p4 x0 x1/\p5 x0 x1/\p6 x0 x1/\p7 x0 x1/\p8 x0 x1/\p9 x0 x1:=⟨x0,x1,h0,h1,h2,h3,h4,h5,h6,h7,h8,h9⟩
theorem kJ{UD UJ U_:Type}{p0:UD->UJ->U_->Prop}{C:Prop}(h:∃x0 x1 x2,p0 x0 x1 x2)(k:∀x0 x1 x2,p0 x0 x1 x2->C):C:=by
 obtain ⟨x0,x1,x2,h0⟩:=h;exact k x0 x1 x2 h0
theorem Ap{UD UJ U_:Type}{p0:UD->UJ->U_->Prop}(x0:UD)(x1:UJ)(x2:U_)(h0:p0 x0 x1 x2):∃x0 x1 x2,p0 x0 x1 x2:=⟨x0,x1,x2,h0⟩
theorem pH{UD UJ U_:Type}{p0 p1:UD->UJ->U_->Prop}{C:Prop}(h:∃x0 x1 x2,p0 x0 x1 x2/\p1 x0 x1 x2)(k:∀x0 x1 x2,p0 x0 x1 x2->p1 x0 x1 x2->C):C:=by
 obtain ⟨x0,x1,x2,h0,h1⟩:=h;exact k x0 x1 x2 h0 h1
theorem Of{UD UJ U_:Type}{p0 p1:UD->UJ->U_->Prop}(x0:UD)(x1:UJ)(x2:U_)(h0:p0 x0 x1 x2)(h1:p1 x0 x1 x2):∃x0 x1 x2,p0 x0 x1 x2/\p1 x0 x1 x2:=⟨x0,x1,x2,h0,h1⟩
theorem pG{UD UJ U_:Type}{p0 p1 p2:UD->UJ->U_->Prop}{C:Prop}(h:∃x0 x1 x2,p0 x0 x1 x2/\p1 x0 x1 x2/\p2 x0 x1 x2)(k:∀x0 x1 x2,p0 x0 x1 x2->p1 x0 x1 x2->p2 x0 x1 x2->C):C:=by
 obtain ⟨x0,x1,x2,h0,h1,h2⟩:=h;exact k x0 x1 x2 h0 h1 h2
theorem t7{UD UJ U_:Type}{p0 p1 p2:UD->UJ->U_->Prop}(x0:UD)(x1:UJ)(x2:U_)(h0:p0 x0 x1 x2)(h1:p1 x0 x1 x2)(h2:p2 x0 x1 x2):∃x0 x1 x2,p0 x0 x1 x2/\p1 x0 x1 x2/\p2 x0 x1 x2:=⟨x0,x1,x2,h0,h1,h2⟩
theorem r_{UD UJ U_:Type}{p0 p1 p2 p3:UD->UJ->U_->Prop}{C:Prop}(h:∃x0 x1 x2,p0 x0 x1 x2/\p1 x0 x1 x2/\p2 x0 x1 x2/\p3 x0 x1 x2)(k:∀x0 x1 x2,p0 x0 x1 x2->p1 x0 x1 x2->p2 x0 x1 x2->p3 x0 x1 x2->C):C:=by
 obtain ⟨x0,x1,x2,h0,h1,h2,h3⟩:=h;exact k x0 x1 x2 h0 h1 h2 h3
theorem t6{UD UJ U_:Type}{p0 p1 p2 p3:UD->UJ->U_->Prop}(x0:UD)(x1:UJ)(x2:U_)(h0:p0 x0 x1 x2)(h1:p1 x0 x1 x2)(h2:p2 x0 x1 x2)(h3:p3 x0 x1 x2):∃x0 x1 x2,p0 x0 x1 x2/\p1 x0 x1 x2/\p2 x0 x1 x2/\p3 x0 x1 x2:=⟨x0,x1,x2,h0,h1,h2,h3⟩
theorem On{UD UJ U_:Type}{p0 p1 p2 p3 p4:UD->UJ->U_->Prop}{C:Prop}(h:∃x0 x1 x2,p0 x0 x1 x2/\p1 x0 x1 x2/\p2 x0 x1 x2/\p3 x0 x1 x2/\p4 x0 x1 x2)(k:∀x0 x1 x2,p0 x0 x1 x2->p1 x0 x1 x2->p2 x0 x1 x2->p3 x0 x1 x2->p4 x0 x1 x2->C):C:=by
 obtain ⟨x0,x1,x2,h0,h1,h2,h3,h4⟩:=h;exact k x0 x1 x2 h0 h1 h2 h3 h4
theorem Om{UD UJ U_:Type}{p0 p1 p2 p3 p4 p5:UD->UJ->U_->Prop}{C:Prop}(h:∃x0 x1 x2,p0 x0 x1 x2/\p1 x0 x1 x2/\p2 x0 x1 x2/\p3 x0 x1 x2/\p4 x0 x1 x2/\p5 x0 x1 x2)(k:∀x0 x1 x2,p0 x0 x1 x2->p1 x0 x1 x2->p2 x0 x1 x2->p3 x0 x1 x2->p4 x0 x1 x2->p5 x0 x1 x2->C):C:=by
 obtain ⟨x0,x1,x2,h0,h1,h2,h3,h4,h5⟩:=h;exact k x0 x1 x2 h0 h1 h2 h3 h4 h5
theorem Ar{UD UJ U_ VV:Type}{p0:UD->UJ->U_->VV->Prop}{C:Prop}(h:∃x0 x1 x2 x3,p0 x0 x1 x2 x3)(k:∀x0 x1 x2 x3,p0 x0 x1 x2 x3->C):C:=by
 obtain ⟨x0,x1,x2,x3,h0⟩:=h;exact k x0 x1 x2 x3 h0
theorem Oe{UD UJ U_ VV:Type}{p0:UD->UJ->U_->VV->Prop}(x0:UD)(x1:UJ)(x2:U_)(x3:VV)(h0:p0 x0 x1 x2 x3):∃x0 x1 x2 x3,p0 x0 x1 x2 x3:=⟨x0,x1,x2,x3,h0⟩
theorem Jk{UD UJ U_ VV:Type}{p0 p1 p2:UD->UJ->U_->VV->Prop}(x0:UD)(x1:UJ)(x2:U_)(x3:VV)(h0:p0 x0 x1 x2 x3)(h1:p1 x0 x1 x2 x3)(h2:p2 x0 x1 x2 x3):∃x0 x1 x2 x3,p0 x0 x1 x2 x3/\p1 x0 x1 x2 x3/\p2 x0 x1 x2 x3:=⟨x0,x1,x2,x3,h0,h1,h2⟩
theorem Jm{UD UJ U_ VV:Type}{p0 p1 p2 p3 p4:UD->UJ->U_->VV->Prop}{C:Prop}(h:∃x0 x1 x2 x3,p0 x0 x1 x2 x3/\p1 x0 x1 x2 x3/\p2 x0 x1 x2 x3/\p3 x0 x1 x2 x3/\p4 x0 x1 x2 x3)(k:∀x0 x1 x2 x3,p0 x0 x1 x2 x3->p1 x0 x1 x2 x3->p2 x0 x1 x2 x3->p3 x0 x1 x2 x3->p4 x0 x1 x2 x3->C):C:=by
 obtain ⟨x0,x1,x2,x3,h0,h1,h2,h3,h4⟩:=h;exact k x0 x1 x2 x3 h0 h1 h2 h3 h4
theorem Jj{UD UJ U_ VV:Type}{p0 p1 p2 p3 p4:UD->UJ->U_->VV->Prop}(x0:UD)(x1:UJ)(x2:U_)(x3:VV)(h0:p0 x0 x1 x2 x3)(h1:p1 x0 x1 x2 x3)(h2:p2 x0 x1 x2 x3)(h3:p3 x0 x1 x2 x3)(h4:p4 x0 x1 x2 x3):∃x0 x1 x2 x3,p0 x0 x1 x2 x3/\p1 x0 x1 x2 x3/\p2 x0 x1 x2 x3/\p3 x0 x1 x2 x3/\p4 x0 x1 x2 x3:=⟨x0,x1,x2,x3,h0,h1,h2,h3,h4⟩
theorem Ez{UD UJ U_ VV:Type}{p0 p1 p2 p3 p4 p5 p6:UD->UJ->U_->VV->Prop}{C:Prop}(h:∃x0 x1 x2 x3,p0 x0 x1 x2 x3/\p1 x0 x1 x2 x3/\p2 x0 x1 x2 x3/\p3 x0 x1 x2 x3/\p4 x0 x1 x2 x3/\p5 x0 x1 x2 x3/\p6 x0 x1 x2 x3)(k:∀x0 x1 x2 x3,p0 x0 x1 x2 x3->p1 x0 x1 x2 x3->p2 x0 x1 x2 x3->p3 x0 x1 x2 x3->p4 x0 x1 x2 x3->p5 x0 x1 x2 x3->p6 x0 x1 x2 x3->C):C:=by
 obtain ⟨x0,x1,x2,x3,h0,h1,h2,h3,h4,h5,h6⟩:=h;exact k x0 x1 x2 x3 h0 h1 h2 h3 h4 h5 h6
theorem Ao{UD UJ U_ VV:Type}{p0 p1 p2 p3 p4 p5 p6:UD->UJ->U_->VV->Prop}(x0:UD)(x1:UJ)(x2:U_)(x3:VV)(h0:p0 x0 x1 x2 x3)(h1:p1 x0 x1 x2 x3)(h2:p2 x0 x1 x2 x3)(h3:p3 x0 x1 x2 x3)(h4:p4 x0 x1 x2 x3)(h5:p5 x0 x1 x2 x3)(h6:p6 x0 x1 x2 x3):∃x0 x1 x2 x3,p0 x0 x1 x2 x3/\p1 x0 x1 x2 x3/\p2 x0 x1 x2 x3/\p3 x0 x1 x2 x3/\p4 x0 x1 x2 x3/\p5 x0 x1 x2 x3/\p6 x0 x1 x2 x3:=⟨x0,x1,x2,x3,h0,h1,h2,h3,h4,h5,h6⟩
set_option tactic.hygienic false
set_option genInjectivity false
set_option genSizeOf false
section
noncomputable def er:Value->Value
 | .int i _=> .int i 0
 | .str s _=> .str s 0
 | .float b _=> .float b 0
 | .bytes b _=> .bytes b 0
 | v=>v
noncomputable abbrev vi(i:Int):Value:=.int i 0
@[simp] theorem Ri(i:Int)(t:Tok):er (.int i t)=vi i:=rfl
@[simp] theorem Rf(i:Str)(t:Tok):er (.str i t)=.str i 0:=rfl
@[simp] theorem Rh(a:Addr):er (.ref a)=.ref a:=rfl
@[simp] theorem Pi:er .none=.none:=rfl
@[simp] theorem Pj(b:Bool):er (.bool b)=.bool b:=rfl
@[simp] theorem Ku(b:String):er (.builtin b)=.builtin b:=rfl
@[simp] theorem Ph(b:String):er (.type b)=.type b:=rfl
@[simp] theorem So(v:Value):er (er v)=er v:=by cases v<;>rfl
theorem nH(h:er v=vi i):∃t,v=.int i t:=by
 cases v with
 | int j t=>cases h;exact ⟨_,rfl⟩
 | _=>exact (cI ly h rfl).elim
theorem BU(h:er v=.str i 0):∃t,v=.str i t:=by
 cases v with
 | str j t=>cases h;exact ⟨_,rfl⟩
 | _=>exact (cI ly h rfl).elim
theorem eI(h:er v=.ref a):v=.ref a:=by
 cases v with
 | ref b=>exact h
 | _=>exact (cI ly h rfl).elim
theorem oH(h:er v=.none):v=.none:=by
 cases v with
 | none=>rfl
 | _=>exact (cI ly h rfl).elim
theorem ir(h:er v=.bool b):v=.bool b:=by
 cases v with
 | bool c=>exact h
 | _=>exact (cI ly h rfl).elim
@[elab_as_elim] theorem lB{P:Value->Prop}(e:er v=vi i)(h:∀t,P (.int i t)):P v:=(nH e).elim λ t q=>q▸h t
@[elab_as_elim] theorem Pk{P:Value->Prop}(e:er v=.str i 0)(h:∀t,P (.str i t)):P v:=(BU e).elim λ t q=>q▸h t
@[elab_as_elim] theorem lA{P:Value->Prop}(e:er v=.ref a)(h:P (.ref a)):P v:=eI e▸h
@[elab_as_elim] theorem Pl{P:Value->Prop}(e:er v=.none)(h:P .none):P v:=oH e▸h
@[elab_as_elim] theorem Gp{P:Value->Prop}(e:er v=.bool b)(h:P (.bool b)):P v:=ir e▸h
noncomputable abbrev tupO(its:Array Value)(n:Nat):Obj:={cls:=.type "tuple",data:=.seq its n}
inductive ba where
 | list (xs:List Value)
 | tup (xs:List Value)
 | dict (kvs:List (Int×Value))
 | sdict (kvs:List (Str×Value))
 | ns (fs:List (Str×Value))
 | inst (C dx:Addr)
 | rng (lo:Int) (k:Nat)
 | raw (o:Obj)
 | ro (o:Obj) (v:ba)
structure Cx where
 prog:Program
 w:jk
 K:Frag
 p:Program
 loose:List Str
 mean:ExcName->Option Value
 mg:Str->Option Value
 mb:Str->Option Value
 os:OsState
 drawn:Drawn
structure OS(C:Cx)(h:Heap):Prop where
 X:C.K.In h
 T:Top C.p C.loose C.mean C.mg C.mb h
theorem OS.keeps(G:OS C h)(k:∀b o,h.get? b=some o->h'.get? b=some o):OS C h' :=⟨G.X.keeps k,G.T.keeps k⟩
inductive qt(C:Cx):List DictEntry->List (Str×Value)->Prop
 | nil:qt C [] []
 | cons {e f es fs}:(∃t,e.key=.str (JE f) t)->e.hash=sP C.w.params f.1->er e.val=f.2->qt C es fs->qt C (e::es) (f::fs)
noncomputable def At(C:Cx)(h:Heap)(a:Addr):ba->Prop
 | .list xs=>∃(vs:List Value) (n:Nat),h.get? a=some (listOf vs.toArray n)/\vs.map er=xs
 | .tup xs=>∃(vs:List Value) (n:Nat),h.get? a=some (tupO vs.toArray n)/\vs.map er=xs
 | .dict kvs=>∃UA :List (Int×Value),h.DictOf (iF C.prog C.w) a UA /\UA.map (λ p=>(p.1,er p.2))=kvs
 | .sdict kvs=>∃UA :List (Str×Value),h.DictOf (strKind C.prog C.w) a UA /\UA.map (λ p=>(p.1,er p.2))=kvs
 | .ns fs=>∃es n,h.get? a=some (LD es n)/\qt C es fs
 | .inst c dx=>h.get? a=some (F_ c dx)
 | .rng lo k=>∃(b:Int) (t u v:Tok),IsRange h a lo b 1 t u v/\O_ lo b 1=k/\O9 lo b 1=true
 | .raw o=>h.get? a=some o
 | .ro o v=>h.get? a=some o/\At C h a v
theorem At.there:∀{o:ba},At C h a o->∃ob,h.get? a=some ob
 | .list _,⟨_,_,x,_⟩=>⟨_,x⟩
 | .tup _,⟨_,_,x,_⟩=>⟨_,x⟩
 | .dict _,⟨_,⟨ob,_,_,x,_⟩,_⟩=>⟨ob,x⟩
 | .sdict _,⟨_,⟨ob,_,_,x,_⟩,_⟩=>⟨ob,x⟩
 | .ns _,⟨_,_,x,_⟩=>⟨_,x⟩
 | .inst _ _,x=>⟨_,x⟩
 | .rng _ _,⟨_,_,_,_,x,_⟩=>⟨_,x⟩
 | .raw _,x=>⟨_,x⟩
 | .ro _ _,x=>⟨_,x.1⟩
theorem At.keep(e:∀o,h.get? a=some o->h'.get? a=some o):∀{o:ba},At C h a o->At C h' a o
 | .list _,⟨vs,n,x,q⟩=>⟨vs,n,e _ x,q⟩
 | .tup _,⟨vs,n,x,q⟩=>⟨vs,n,e _ x,q⟩
 | .dict _,⟨vs,⟨ob,es,ep,x,r⟩,q⟩=>⟨vs,⟨ob,es,ep,e _ x,r⟩,q⟩
 | .sdict _,⟨vs,⟨ob,es,ep,x,r⟩,q⟩=>⟨vs,⟨ob,es,ep,e _ x,r⟩,q⟩
 | .ns _,⟨es,n,x,r⟩=>⟨es,n,e _ x,r⟩
 | .inst _ _,x=>e _ x
 | .rng _ _,⟨b,t,u,v,x,r⟩=>⟨b,t,u,v,e _ x,r⟩
 | .raw _,x=>e _ x
 | .ro _ _,x=>⟨e _ x.1,x.2.keep e⟩
noncomputable abbrev AH:=List (Addr×ba)
noncomputable def AH.get(U:AH)(a:Addr):Option ba:=O4 a U
noncomputable def AH.put(U:AH)(a:Addr)(o:ba):AH:=(a,o)::U
noncomputable def AH.rd(U:AH)(a:Addr):Option ba:=match U.get a with
 | some (.ro _ v)=>some v
 | x=>x
theorem AH.get_put(U:AH)(a b:Addr)(o:ba):(U.put a o).get b=if b=a then some o else U.get b:=by
 unfold AH.put AH.get
 refine ae bv ?_
 by_cases h:b=a
 ·subst h;simp
 ·have:(b==a)=false:=by simpa using h
  simp [this,h]
@[simp] theorem AH.get_put_self(U:AH)(a:Addr)(o:ba):(U.put a o).get a=some o:=by simp [AH.get_put]
theorem AH.get_put_ne{U:AH}(h:b≠a):(U.put a o).get b=U.get b:=by simp [AH.get_put,h]
theorem AH.dom{U:AH}{a:Addr}(h:a∈l7 (λ p=>p.1) U):∃o,U.get a=some o:=by
 induction U with
 | nil=>cases h
 | cons p r ih=>
  obtain ⟨b,o⟩:=p
  by_cases e:a=b
  ·(try clear h);subst e;exact ⟨o,AH.get_put_self r a o⟩
  ·rcases aM.mp h with q | q
   ·exact absurd q e
   ·exact aS (ih q) λ o' ho' =>⟨o',(AH.get_put_ne (U:=r) e).trans ho'⟩
theorem AH.dom'{U:AH}(h:U.get a=some o):a∈l7 (λ p=>p.1) U:=by
 induction U with
 | nil=>exact (bH h).elim
 | cons p r ih=>
  obtain ⟨b,o'⟩:=p
  by_cases e:a=b
  ·(try clear h);subst e;exact .head _
  ·exact .tail _ (ih ((AH.get_put_ne (U:=r) e).symm.trans h))
structure dD where
 A:eN
 fenv:Env
 env:Env
 outer:List Env
 A₀:eN
 base:Heap
 h₀:Heap
 L:Addr
 oL:Option (Str->Option Value)
 cells:List (Str×Addr)
noncomputable def dD.ownA(F:dD):List Addr:=F.cells.map (·.2)++(if F.oL.isSome then [F.env.locals] else [])
structure dD.Ok(C:Cx)(n:Nat)(F:dD):Prop where
 B:Below F.A₀ F.base F.outer F.h₀
 hA:F.A.frames=some (F.fenv::F.outer)
 hf:F.fenv.frame=some F.L
 hk:F.fenv.scope.kind=.function
 G:OS C F.h₀
 ek:F.env.scope.kind=.function
 eg:F.env.globals=du
 eb:F.env.builtins=builtinsNs
 el:F.oL=none->F.env.locals=F.L
 ei:F.oL.isSome=true->F.env.locals≠F.L
 handled:F.A.handled=none
 capart:F.cells.Pairwise λ x y=>x.2≠y.2
 cloc:∀x∈F.cells,x.2≠F.env.locals
 csub:∀x c,F.cells.lookup x=some c->F.env.cells.lookup x=some c
 cok:∀x,(F.env.kindOf x=some .cell\/F.env.kindOf x=some .free)->x≠ "__class__"->∃c,F.cells.lookup x=some c
 depth:F.A.depth+3*n<RG
 units:F.A.units+10*n<CJ
noncomputable def th(F:dD)(h:Heap)(a:Addr):Prop:=(∃o,h.get? a=some o)/\a≠F.L/\F.h₀.get? a=none
structure oP(C:Cx)(s:aO):Prop where
 gens:s.gens=#[]
 os:s.os=C.os
 dr:s.drawn=C.drawn
noncomputable def OL(F:dD)(h:Heap)(x:Str)(v:Value):Prop:=(x==("__debug__":Str))=false/\(x==("__classdict__":Str))=false/\∃cv,er cv=v/\
 ((F.env.kindOf x=some .local/\∃ml,h.Ns F.env.locals ml/\ml x=some cv)\/
  ((F.env.kindOf x=some .cell\/F.env.kindOf x=some .free)/\∃c,F.cells.lookup x=some c/\h.IsCell c (some cv)))
structure cQ(C:Cx)(F:dD)(Z:List (Addr×Obj))(s:aO)(m:Str->Option Value)(U:AH):Prop where
 core:oP C s
 fr:∃mL,Fr F.h₀ F.L s.heap mL
 inn:∀ml,F.oL=some ml->s.heap.Ns F.L ml
 loc:∃ml,s.heap.Ns F.env.locals ml
 var:∀x v,m x=some v->OL F s.heap x v
 cel:∀x∈F.cells,∃cv,s.heap.IsCell x.2 cv
 own:∀a∈F.ownA,th F s.heap a/\U.get a=none/\∀p∈Z,p.1≠a
 zz:∀p∈Z,s.heap.get? p.1=some p.2/\p.1≠F.L/\F.h₀.get? p.1=none/\U.get p.1=none
 sg:∀a o,U.get a=some o->th F s.heap a/\At C s.heap a o
 sm:∀a o,U.get a=some o->3<a
theorem oP.upd(h:oP C s):oP C {s with heap:=hp,toks:=tk}:=⟨h.gens,h.os,h.dr⟩
theorem dk{h h' :Heap}(x:h.IsCell c v)(k:∀o,h.get? c=some o->h'.get? c=some o):h'.IsCell c v:=
 let ⟨o,a,b⟩:=x;⟨o,k _ a,b⟩
theorem en{h h' :Heap}{v:Str->Option Value}(x:h.Ns c v)(k:∀o,h.get? c=some o->h'.get? c=some o):h'.Ns c v:=
 let ⟨o,es,ep,a,b⟩:=x;⟨o,es,ep,k _ a,b⟩
section
variable{C:Cx}{F:dD}{Z:List (Addr×Obj)}{s s' :aO}{m:Str->Option Value}{U U' :AH}{n:Nat}
theorem cQ.keep(R:cQ C F Z s m U):∀b o,F.h₀.get? b=some o->s.heap.get? b=some o:=let ⟨_,f⟩:=R.fr;f.keep
theorem cQ.L_live(R:cQ C F Z s m U):∃o,s.heap.get? F.L=some o:=let ⟨_,f⟩:=R.fr;let ⟨o,_,_,h,_⟩:=f.ns;⟨o,h⟩
theorem cQ.step(O:F.Ok C n)(R:cQ C F Z s m U)(c' :oP C s')(W:Addr->Prop)(hW:∀a,W a->∃o,U.get a=some o)
  (hk:∀b o,¬W b->s.heap.get? b=some o->s'.heap.get? b=some o)
  (XS:∀a o,U'.get a=some o->(U.get a=some o/\¬W a)\/((W a\/(s.heap.get? a=none/\3<a))/\At C s'.heap a o)):cQ C F Z s' m U' :=by
 have offL:¬W F.L:=λ h=>aS (hW _ h) λ o e=>((R.sg _ _ e).1.2.1 rfl)
 have offO:∀a∈F.ownA,¬W a:=λ a ha h=>by refine aS (hW _ h) λ o e=>?_;replace e:=(R.own a ha).2.1▸e;exact (bH e).elim
 have offG:∀a o,F.h₀.get? a=some o->¬W a:=λ a o ha h=>by refine aS (hW _ h) λ o e=>?_;replace ha:=(R.sg _ _ e).1.2.2▸ha;exact (bH ha).elim
 have offZ:∀p∈Z,¬W p.1:=λ p hp h=>by refine aS (hW _ h) λ o e=>?_;replace e:=(R.zz p hp).2.2.2▸e;exact (bH e).elim
 have offl:¬W F.env.locals:=by
  cases hl:F.oL with
  | none=>exact ah (O.el hl) offL
  | some o=>exact offO _ (by simp [dD.ownA,hl])
 have offc:∀x∈F.cells,¬W x.2:=λ x hx=>offO _ (by simp [dD.ownA];exact .inl ⟨_,hx⟩)
 have none' :∀a,U.get a=none->(∃o,s.heap.get? a=some o)->U'.get a=none:=λ a ha hl=>by
  cases q:U'.get a with
  | none=>rfl
  | some o=>
   rcases XS a o q with h | ⟨h,_⟩
   ·replace h:=ha▸h;cases h.1
   ·rcases h with h | h
    ·refine aS (hW _ h) λ o e=>?_;replace e:=ha▸e;exact (bH e).elim
    ·refine aS hl λ o e=>?_;clear hl;replace e:=h.1▸e;exact (bH e).elim
 refine aS R.fr λ mL f=>⟨c',⟨mL,en f.ns (λ o e=>hk _ _ offL e),λ b o e=>hk _ _ (offG b o e) (f.keep b o e),f.above⟩,λ o e=>en (R.inn o e) (λ o e=>hk _ _ offL e),?_,?_,?_,?_,?_,?_,?_⟩
 ·exact aS R.loc λ ml x=>⟨ml,en x λ o e=>hk _ _ offl e⟩
 ·intro x v hx
  obtain ⟨a,a',cv,e,h⟩:=R.var x v hx
  refine ⟨a,a',cv,e,?_⟩
  rcases h with ⟨k,ml,hn,hv⟩ | ⟨k,c,hc,hv⟩
  ·exact .inl ⟨k,ml,en hn λ o e=>hk _ _ offl e,hv⟩
  ·exact .inr ⟨k,c,hc,dk hv λ o e=>hk _ _ (offc _ (mem_of_lookup hc)) e⟩
 ·intro x hx;exact aS (R.cel x hx) λ cv h=>⟨cv,dk h λ o e=>hk _ _ (offc x hx) e⟩
 ·intro a ha
  refine ck (R.own a ha) λ Uv b c=>(ck Uv λ UT l2 l3=>?_);clear Uv;obtain ⟨o,ho⟩:=UT
  exact dn ⟨⟨o,hk _ _ (offO a ha) ho⟩,l2,l3⟩ (none' a b ⟨o,ho⟩) c
 ·intro p hp
  exact fE (R.zz p hp) λ a b c d=>(ge (hk _ _ (offZ p hp) a) b c (none' _ d ⟨_,a⟩))
 ·intro a o e
  rcases XS a o e with ⟨h,hw⟩ | ⟨h,ha⟩
  ·refine aP (R.sg a o h) λ Uy d=>(ck Uy λ U9 b c=>?_);clear Uy;obtain ⟨ob,x⟩:=U9
   exact ⟨⟨⟨ob,hk _ _ hw x⟩,b,c⟩,d.keep λ o e=>hk _ _ hw e⟩
  ·refine ⟨⟨ha.there,?_,?_⟩,ha⟩
   ·clear e ha;rcases h with h | h
    ·exact aS (hW _ h) λ o e=>((R.sg _ _ e).1.2.1)
    ·rintro rfl;refine aS R.L_live λ o e=>?_;replace e:=h.1▸e;exact (bH e).elim
   ·rcases h with h | h
    ·exact aS (hW _ h) λ o e=>((R.sg _ _ e).1.2.2)
    ·cases q:F.h₀.get? a with
     | none=>rfl
     | some o=>have:=h.1;replace this:=R.keep _ _ q▸this;exact (hV this).elim
 ·intro a o e
  rcases XS a o e with ⟨h,_⟩ | ⟨h | h,_⟩
  ·exact R.sm a o h
  ·exact aS (hW _ h) λ o e=>(R.sm _ _ e)
  ·exact h.2
theorem cQ.grow(O:F.Ok C n)(R:cQ C F Z s m U)(c' :oP C s')(hk:∀b o,s.heap.get? b=some o->s'.heap.get? b=some o):cQ C F Z s' m U:=
 R.step O c' (λ V=>False) (λ V h=>h.elim) (λ b o V e=>hk b o e) (λ V V e=> .inl ⟨e,id⟩)
theorem cQ.toks(O:F.Ok C n)(R:cQ C F Z s m U):cQ C F Z {s with toks:=tk} m U:=R.grow O (R.core.upd (hp:=s.heap)) λ V V e=>e
theorem cQ.new(O:F.Ok C n)(R:cQ C F Z s m U)(c' :oP C s')(hk:∀b o,s.heap.get? b=some o->s'.heap.get? b=some o)(hn:s.heap.get? a=none)(h3:3<a)(ha:At C s'.heap a o):
  cQ C F Z s' m (U.put a o):=
 R.step O c' (λ V=>False) (λ V h=>h.elim) (λ b o V e=>hk b o e) λ b o' e=>by
  replace e:=(AH.get_put ..)▸e
  split at e
  ·rename_i h;subst h;have UB:=sI e;clear e;subst UB;exact .inr ⟨.inr ⟨hn,h3⟩,ha⟩
  ·exact .inl ⟨e,id⟩
theorem cQ.set(O:F.Ok C n)(R:cQ C F Z s m U)(c' :oP C s')(h₀:U.get a=some o0)(hk:∀b o,b≠a->s.heap.get? b=some o->s'.heap.get? b=some o)(ha:At C s'.heap a o):
  cQ C F Z s' m (U.put a o):=
 R.step O c' (λ b=>b=a) (λ V h=>h▸⟨_,h₀⟩) (λ b o n e=>hk b o n e) λ b o' e=>by
  replace e:=(AH.get_put ..)▸e
  split at e
  ·rename_i h;clear hk h₀;subst h;have UC:=sI e;clear e;subst UC;exact .inr ⟨.inl rfl,ha⟩
  ·rename_i h;exact .inl ⟨e,h⟩
theorem cQ.forget{m' :Str->Option Value}(R:cQ C F Z s m U)(h:∀x v,m' x=some v->m x=some v):cQ C F Z s m' U:=
 ⟨R.core,R.fr,R.inn,R.loc,λ x v e=>R.var x v (h x v e),R.cel,R.own,R.zz,R.sg,R.sm⟩
theorem cQ.top(O:F.Ok C n)(R:cQ C F Z s m U):3<s.heap.objs.size:=(O.G.T.g.keeps R.keep).lt
theorem cQ.notSys(R:cQ C F Z s m U)(h:U.get a=some o):(a==lU)=false:=by
 have:=R.sm a o h
 have e:lU=1:=rfl
 exact ah e (beq_false_of_ne (cj (bz (by decide) this)))
theorem cQ.fresh(R:cQ C F Z s m U)(h:s.heap.get? a=none):U.get a=none:=by
 cases q:U.get a with
 | none=>rfl
 | some o=>refine aP (R.sg _ _ q) λ UF V=>(aP UF λ UM V=>?_);clear UF;obtain ⟨ob,e⟩:=UM;replace e:=h▸e;exact (bH e).elim
theorem AH.rd_get(h:U.rd a=some o):U.get a=some o\/∃ob,U.get a=some (.ro ob o):=by
 unfold AH.rd at h
 cases e:U.get a with
 | none=>replace h:=e▸h;exact .inl h
 | some q=>replace h:=e▸h;cases q with
  | ro ob v=>have UP:=sI h;clear h;subst UP;exact .inr ⟨ob,rfl⟩
  | _=>exact .inl h
theorem cQ.at(R:cQ C F Z s m U)(h:U.rd a=some o):At C s.heap a o:=by
 rcases AH.rd_get h with q | ⟨ob,q⟩
 ·exact (R.sg _ _ q).2
 ·exact (R.sg _ _ q).2.2
end
inductive TZ(C:Cx)(F:dD)(Z:List (Addr×Obj))(m:Str->Option Value)(q:AH->Prop)(s:aO):Prop where
 | mk (U:AH) (R:cQ C F Z s m U) (h:q U)
inductive TY(C:Cx)(F:dD)(Z:List (Addr×Obj))(q:(Str->Option Value)->AH->Prop)(s:aO):Prop where
 | mk (m:Str->Option Value) (U:AH) (R:cQ C F Z s m U) (h:q m U)
inductive Tq(C:Cx)(F:dD)(Z:List (Addr×Obj))(m:Str->Option Value)(X0:aO)(Q:Value->AH->Prop)(r:Except Raised ig)(s:aO):Prop where
 | mk (v:Value) (U:AH) (e:r=.ok (.ret v)) (R:cQ C F Z s m U) (q:Q (er v) U) (f:∀mL,Fr F.h₀ F.L X0.heap mL->Fr F.h₀ F.L s.heap mL)
noncomputable def WE(C:Cx)(F:dD)(n:Nat)(e:Expr)(m:Str->Option Value)(U:AH)(Q:Value->AH->Prop):Prop:=
 F.Ok C n->∀Z s W,cQ C F Z s m U->(∀v s U,cQ C F Z s m U->Q (er v) U->W v s)->br (bR C.prog C.w) F.A (gb e F.env) W (λ V V=>False) s
noncomputable def WT(C:Cx)(F:dD)(n:Nat)(e:Expr)(m:Str->Option Value)(U:AH)(Q:Bool->AH->Prop):Prop:=
 F.Ok C n->∀Z s W,cQ C F Z s m U->(∀v s U,cQ C F Z s m U->Q v U->W v s)->br (bR C.prog C.w) F.A (isTrue e F.env (gb e F.env)) W (λ V V=>False) s
noncomputable def WO{α:Type}(C:Cx)(F:dD)(n:Nat)(t:Sem α)(m:Str->Option Value)(U:AH)(Q:α->AH->Prop):Prop:=
 F.Ok C n->∀Z s W,cQ C F Z s m U->(∀v s U,cQ C F Z s m U->Q v U->W v s)->br (bR C.prog C.w) F.A t W (λ V V=>False) s
noncomputable def WS(C:Cx)(F:dD)(n:Nat)(b:List Stmt)(m:Str->Option Value)(U:AH)(Q:ig->(Str->Option Value)->AH->Prop):Prop:=
 F.Ok C n->∀Z s W,cQ C F Z s m U->(∀f s m U,cQ C F Z s m U->Q f m U->W f s)->br (bR C.prog C.w) F.A (execs b F.env) W (λ V V=>False) s
noncomputable def W1(C:Cx)(F:dD)(n:Nat)(b:Stmt)(m:Str->Option Value)(U:AH)(Q:ig->(Str->Option Value)->AH->Prop):Prop:=
 F.Ok C n->∀Z s W,cQ C F Z s m U->(∀f s m U,cQ C F Z s m U->Q f m U->W f s)->br (bR C.prog C.w) F.A (exec b F.env) W (λ V V=>False) s
noncomputable def WC(C:Cx)(n:Nat)(f:Addr)(args:List Value)(U:AH)(Q:Value->AH->Prop):Prop:=
 ∀(F:dD) Z s m Us,F.Ok C n->cQ C F Z s m U->Us.map er=args->
  iZ (bR C.prog C.w) F.A (.call (.ref f) ⟨Us,[]⟩) (Tq C F Z m s Q) s
theorem WE.mono{Q Q' :Value->AH->Prop}(h:WE C F n e m U Q)(k:∀v U,Q v U->Q' v U):WE C F n e m U Q' :=
 λ O Z s W R K=>h O Z s W R λ V V V a b=>K _ _ _ a (k _ _ b)
theorem WT.mono{Q Q' :Bool->AH->Prop}(h:WT C F n e m U Q)(k:∀v U,Q v U->Q' v U):WT C F n e m U Q' :=
 λ O Z s W R K=>h O Z s W R λ V V V a b=>K _ _ _ a (k _ _ b)
theorem WS.mono{Q Q' :ig->(Str->Option Value)->AH->Prop}(h:WS C F n e m U Q)(k:∀f m U,Q f m U->Q' f m U):WS C F n e m U Q' :=
 λ O Z s W R K=>h O Z s W R λ V V V V a b=>K _ _ _ _ a (k _ _ _ b)
theorem WC.mono{Q Q' :Value->AH->Prop}(h:WC C n f args U Q)(k:∀v U,Q v U->Q' v U):WC C n f args U Q' :=
 λ F Z s m as O R e=>eS (h F Z s m as O R e) λ V V UQ=>by obtain ⟨v,U',a,b,c,d⟩:=UQ;exact ⟨v,U',a,b,k _ _ c,d⟩
end
section
noncomputable def fA(m:Str->Option Value)(x:Str)(v:Value):Str->Option Value:=λ y=>if y=x then some v else m y
theorem uw{P:Value->aO->Prop}:∀e s,False->P e s:=λ V V h=>h.elim
theorem gH{h:Heap}{m m' :Str->Option Value}(x:h.Ns a m)(y:h.Ns a m'):m=m' :=by
 refine r_ x λ o es ep ho hd V hf=>?_;clear x
 refine r_ y λ o' Zk ep' ho' hd' V hf' =>?_;clear y
 replace ho' :=ho▸ho';(try clear ho);have Uv:=sI ho';clear ho';subst Uv
 replace hd' :=hd▸hd';cases hd'
 funext n;exact sV (hf ..) (dt (hf' ..) rfl)
section
variable{C:Cx}{F:dD}{n:Nat}{m:Str->Option Value}{U:AH}{Z:List (Addr×Obj)}{s:aO}
theorem dD.Ok.offCell(O:F.Ok C n)(h:F.cells.lookup x=some c):c≠F.env.locals:=O.cloc _ (mem_of_lookup h)
theorem cQ.storeL(O:F.Ok C n)(R:cQ C F Z s m U){ml:Str->Option Value}(hd:(x==("__debug__":Str))=false)(VU:(x==("__classdict__":Str))=false)
  (hk:F.env.kindOf x=some .local) (hn0:s.heap.Ns F.env.locals ml)
  (hn:h'.Ns F.env.locals (λ y=>if y=x then some cv else ml y)) (hs:ff F.env.locals s.heap h'):cQ C F Z {s with heap:=h',toks:=tk} (fA m x (er cv)) U:=by
 refine aS R.fr λ mL f=>?_
 have lo:F.h₀.get? F.env.locals=none:=by
  cases hl:F.oL with
  | none=>
   refine ah (O.el hl) ?_
   cases q:F.h₀.get? F.L with
   | none=>rfl
   | some o=>exact absurd (ai (bT q) f.above) (cC _)
  | some o=>exact (R.own F.env.locals (by simp [dD.ownA,hl])).1.2.2
 have off:∀b o,F.h₀.get? b=some o->b≠F.env.locals:=λ b o e q=>by replace e:=lo▸q▸e;exact (bH e).elim
 have offOwn:∀p∈Z,p.1≠F.env.locals:=λ p hp q=>by
  cases hl:F.oL with
  | none=>exact (R.zz p hp).2.1 (q.trans (O.el hl))
  | some o=>exact (R.own F.env.locals (by simp [dD.ownA,hl])).2.2 p hp q
 have offσ:U.get F.env.locals=none:=by
  cases hl:F.oL with
  | none=>
   refine ah (O.el hl) ?_
   cases q:U.get F.L with
   | none=>rfl
   | some o=>exact absurd rfl (R.sg _ _ q).1.2.1
  | some o=>exact (R.own F.env.locals (by simp [dD.ownA,hl])).2.1
 have live:∀a,th F s.heap a->th F h' a:=λ a ⟨⟨o,ho⟩,l2,l3⟩=>by
  refine dn ?_ l2 l3
  by_cases e:a=F.env.locals
  ·clear ho l2 l3;subst e;refine pH hn λ o' V V h V=>?_;clear hn;exact ⟨o',h⟩
  ·exact ⟨o,(hs.2 a e).trans ho⟩
 refine ⟨R.core.upd,?_,?_,⟨_,hn⟩,?_,?_,?_,?_,?_,R.sm⟩
 ·by_cases e:F.env.locals=F.L
  ·replace hn:=e▸hn;exact ⟨_,hn,λ b o q=>(hs.2 b (off b o q)).trans (f.keep b o q),f.above⟩
  ·exact ⟨mL,en f.ns (λ o q=>(hs.2 _ (ik e)).trans q),λ b o q=>(hs.2 b (off b o q)).trans (f.keep b o q),f.above⟩
 ·intro o e
  have:=O.ei (ah e rfl)
  exact en (R.inn o e) λ o q=>(hs.2 _ (ik this)).trans q
 ·intro y v hy
  unfold fA at hy
  split at hy
  ·rename_i e;subst e;have Uy:=sI hy;clear hy;subst Uy
   exact ⟨hd,VU,cv,rfl,.inl ⟨hk,_,hn,by simp⟩⟩
  ·rename_i e
   obtain ⟨a,a',Xq,e',q⟩:=R.var y v hy
   refine ⟨a,a',Xq,e',?_⟩
   rcases q with ⟨k,ml',hm,hv⟩ | ⟨k,c,hc,hv⟩
   ·replace hv:=gH hm hn0▸hv
    exact .inl ⟨k,_,hn,by simp [e,hv]⟩
   ·exact .inr ⟨k,c,hc,dk hv λ o q=>(hs.2 _ (O.offCell hc)).trans q⟩
 ·intro y hy;exact aS (R.cel y hy) λ Xq h=>⟨Xq,dk h λ o q=>(hs.2 _ (O.cloc _ hy)).trans q⟩
 ·intro a ha;exact ck (R.own a ha) λ l b c=>(dn (live a l) b c)
 ·intro p hp;exact fE (R.zz p hp) λ a b c d=>(ge ((hs.2 _ (offOwn p hp)).trans a) b c d)
 ·intro a o e
  exact aP (R.sg a o e) λ l q=>⟨live a l,q.keep λ ob h=>(hs.2 a (λ z=>by replace e:=offσ▸z▸e;exact (bH e).elim)).trans h⟩
theorem cQ.storeC(O:F.Ok C n)(R:cQ C F Z s m U)(hd:(x==("__debug__":Str))=false)(VU:(x==("__classdict__":Str))=false)
  (hk:F.env.kindOf x=some .cell) (hc:F.cells.lookup x=some c)
  (hn:h'.IsCell c (some cv)) (hs:ff c s.heap h'):cQ C F Z {s with heap:=h',toks:=tk} (fA m x (er cv)) U:=by
 have hcm:c∈F.ownA:=by simp [dD.ownA];exact .inl ⟨_,mem_of_lookup hc⟩
 refine ck (R.own c hcm) λ UB cσ cZ=>(ck UB λ V cL c0=>?_);clear UB
 (try clear hcm);refine aS R.fr λ mL f=>?_
 have off:∀b o,F.h₀.get? b=some o->b≠c:=λ b o e q=>by replace e:=c0▸q▸e;exact (bH e).elim
 have cl:F.env.locals≠c:=ik (O.offCell hc)
 have live:∀a,th F s.heap a->th F h' a:=λ a ⟨⟨o,ho⟩,l2,l3⟩=>by
  refine dn ?_ l2 l3
  by_cases e:a=c
  ·clear c0 cL cZ cl cσ hc hs off;subst e;refine aH hn λ o' h V=>?_;clear hn;exact ⟨o',h⟩
  ·exact ⟨o,(hs.2 a e).trans ho⟩
 refine ⟨R.core.upd,?_,?_,?_,?_,?_,?_,?_,?_,R.sm⟩
 ·exact ⟨mL,en f.ns (λ o q=>(hs.2 _ (ik cL)).trans q),λ b o q=>(hs.2 b (off b o q)).trans (f.keep b o q),f.above⟩
 ·intro o e;exact en (R.inn o e) λ o q=>(hs.2 _ (ik cL)).trans q
 ·exact aS R.loc λ ml h=>⟨ml,en h λ o q=>(hs.2 _ cl).trans q⟩
 ·intro y v hy
  unfold fA at hy
  split at hy
  ·rename_i e;subst e;have UC:=sI hy;clear hy;subst UC
   exact ⟨hd,VU,cv,rfl,.inr ⟨.inl hk,c,hc,hn⟩⟩
  ·rename_i e
   obtain ⟨a,a',Xq,e',q⟩:=R.var y v hy
   refine ⟨a,a',Xq,e',?_⟩
   rcases q with ⟨k,ml',hm,hv⟩ | ⟨k,c',Vp,hv⟩
   ·exact .inl ⟨k,ml',en hm λ o q=>(hs.2 _ cl).trans q,hv⟩
   ·refine .inr ⟨k,c',Vp,dk hv λ o q=>(hs.2 _ λ z=>?_).trans q⟩
    exact e (F8 O.capart (mem_of_lookup Vp) (z▸mem_of_lookup hc))
 ·intro y hy
  by_cases e:y.2=c
  ·exact ah e ⟨_,hn⟩
  ·exact aS (R.cel y hy) λ Xq h=>⟨Xq,dk h λ o q=>(hs.2 _ e).trans q⟩
 ·intro a ha;exact ck (R.own a ha) λ l b c=>(dn (live a l) b c)
 ·intro p hp;exact fE (R.zz p hp) λ a b c' d=>(ge ((hs.2 _ (cZ p hp)).trans a) b c' d)
 ·intro a o e
  exact aP (R.sg a o e) λ l q=>⟨live a l,q.keep λ ob h=>(hs.2 a (λ z=>by replace e:=cσ▸z▸e;exact (bH e).elim)).trans h⟩
noncomputable def Stores(F:dD)(x:Str):Prop:=(x==("__debug__":Str))=false/\(x==("__classdict__":Str))=false/\(F.env.kindOf x=some .local\/(F.env.kindOf x=some .cell/\∃c,F.cells.lookup x=some c))
theorem i7{E:Value->aO->Prop}{Q:Unit->aO->Prop}(O:F.Ok C n)(R:cQ C F Z s m U)(S:Stores F x)
  (h:∀s',cQ C F Z s' (fA m x (er cv)) U->Q () s'):br (bR C.prog C.w) F.A (storeName F.env x cv) Q E s:=by
 obtain ⟨hd,VU,hk | ⟨hk,c,hc⟩⟩:=S
 ·exact aS R.loc λ ml hn=>(wpAny_storeName_local hk hn (λ h' hn' hs=>h _ (R.storeL O hd VU hk hn hn' hs))
   (((ah O.ek rfl):(F.env.scope.kind==.class || (F.env.scope.kind==.module&&_))=false)))
 ·exact aS (R.cel _ (mem_of_lookup hc)) λ v0 hv=>(wpAny_storeName_cell O.ek hk (O.csub _ _ hc) hv λ h' hn hs=>h _ (R.storeC O hd VU hk hc hn hs))
theorem f_{Q:Value->AH->Prop}(hm:m x=some v)(h:Q v U):WE C F n (.Name x pos) m U Q:=λ O Z s W R K=>by
 obtain ⟨hd,VU,cv,e,q⟩:=R.var x v hm
 rcases q with ⟨k,ml,hn,hv⟩ | ⟨k | k,c,hc,hv⟩
 ·exact Ly (wpAny_loadName_local O.ek k hn hv (K _ _ _ R (e▸h))) hd
 ·exact Ly (wpAny_loadName_cell O.ek k (O.csub _ _ hc) hv (K _ _ _ R (e▸h))) hd
 ·exact Ly (wpAny_loadName_free O.ek k (O.csub _ _ hc) hv (K _ _ _ R (e▸h)) VU) hd
theorem Cd{Q:Value->AH->Prop}(hk:F.env.kindOf x=some .globalImplicit)(hx:pY C.K du x=some (some v))(hd:(x==("__debug__":Str))=false)(h:Q (er v) U):
  WE C F n (.Name x pos) m U Q:=λ O Z s W R K=>
 eX O.ek hk (to (ah O.eg (O.G.T.g.keeps R.keep)) (T_ O.G.X O.G.T.g hx) (K _ _ _ R h)) hd
theorem zd{Q:Value->AH->Prop}(hk:F.env.kindOf x=some .globalImplicit)(hx:pY C.K du x=some none)(hb:fU x=some v)(hn:x≠ "__name__")(hd:(x==("__debug__":Str))=false)(h:Q (er v) U):
  WE C F n (.Name x pos) m U Q:=λ O Z s W R K=>
 eX O.ek hk (lV (ah O.eg (O.G.T.g.keeps R.keep)) (zj O.G.X O.G.T.g hx) (ah O.eb (O.G.T.b.keeps R.keep)) ((O.G.T.builtins x hn).trans hb) (K _ _ _ R h)) hd
theorem zc{Q:Value->AH->Prop}(h:Q (vi i) U):WE C F n (.Constant (.int i) k pos) m U Q:=λ O Z s W R K=>wpAny_Constant_int (K _ _ _ (R.toks O) h)
theorem zb{Q:Value->AH->Prop}(h:Q (.str i 0) U):WE C F n (.Constant (.str i) k pos) m U Q:=λ O Z s W R K=>wpAny_Constant_str (K _ _ _ (R.toks O) h)
theorem vf{Q:Value->AH->Prop}(h:Q (.bool i) U):WE C F n (.Constant (.bool i) k pos) m U Q:=λ O Z s W R K=>wpAny_Constant_bool (K _ _ _ R h)
theorem Iq{Q:Value->AH->Prop}(h:Q .none U):WE C F n (.Constant .none k pos) m U Q:=λ O Z s W R K=>wpAny_Constant_none (K _ _ _ R h)
noncomputable def WV{α:Type}(C:Cx)(F:dD)(n:Nat)(f:Value->Sem α)(a:Value)(m:Str->Option Value)(U:AH)(Q:α->AH->Prop):Prop:=∀a',er a' =a->WO C F n (f a') m U Q
noncomputable def ji{α:Type}(C:Cx)(F:dD)(n:Nat)(f:Value->Value->Sem α)(a b:Value)(m:Str->Option Value)(U:AH)(Q:α->AH->Prop):Prop:=∀a' b',er a' =a->er b' =b->WO C F n (f a' b') m U Q
noncomputable def qe(Q:Value->AH->Prop):Value->AH->Prop:=λ v U=>Q (er v) U
theorem FN{Q:Value->AH->Prop}(h:WE C F n l m U λ a U1=>WE C F n r m U1 λ b Uq=>ji C F n (fB op) a b m Uq (qe Q)):WE C F n (.BinOp l op r pos) m U Q:=λ O Z s W R K=>
 wpAny_BinOp (h O Z s _ R λ a s₁ U1 R₁ Ut=>Ut O Z s₁ _ R₁ λ b s₂ Uq R₂ UL=>UL a b rfl rfl O Z s₂ _ R₂ K)
theorem OG{Q:Value->AH->Prop}(h:WE C F n x m U λ a U1=>WV C F n (LX op) a m U1 (qe Q)):WE C F n (.UnaryOp op x pos) m U Q:=λ O Z s W R K=>
 wpAny_UnaryOp (h O Z s _ R λ a s₁ U1 R₁ Ut=>Ut a rfl O Z s₁ _ R₁ K)
theorem K'{Q:Value->AH->Prop}(hm:iX op r=false)(h:WE C F n l m U λ a U1=>WE C F n r m U1 λ b Uq=>ji C F n (bm op) a b m Uq (qe Q)):WE C F n (.Compare l [op] [r] pos) m U Q:=λ O Z s W R K=>
 wpAny_Compare1 (h O Z s _ R λ a s₁ U1 R₁ Ut=>Ut O Z s₁ _ R₁ λ b s₂ Uq R₂ UL=>UL a b rfl rfl O Z s₂ _ R₂ K) hm
theorem OI{Q:Value->AH->Prop}(h:WT C F n t m U λ c U1=>if c then WE C F n b m U1 Q else WE C F n o m U1 Q):WE C F n (.IfExp t b o pos) m U Q:=λ O Z s W R K=>
 wpAny_IfExp (h O Z s _ R λ c s₁ U1 R₁ Ut=>by cases c<;>exact Ut O Z s₁ _ R₁ K)
theorem FA{Q:Bool->AH->Prop}(he:∀env V3,isTrue e env V3=(do let v<-V3;fT e.pos;fF [v] (lS v)))(h:WE C F n e m U λ a U1=>WV C F n lS a m U1 Q):WT C F n e m U Q:=λ O Z s W R K=>
 wpAny_isTrue_value (h O Z s _ R λ a s₁ U1 R₁ Ut=>Ut a rfl O Z s₁ _ R₁ K) (he _ _)
theorem K8{Q:Bool->AH->Prop}(h:WT C F n x m U λ b U1=>Q (!b) U1):WT C F n (.UnaryOp .Not x pos) m U Q:=λ O Z s W R K=>
 wpAny_isTrue_Not (h O Z s _ R λ b=>K !b)
noncomputable def WA(C:Cx)(F:dD)(n:Nat)(op:BoolOp)(es:List Expr)(m:Str->Option Value)(U:AH)(Q:Bool->AH->Prop):Prop:=
 F.Ok C n->∀Z s W,cQ C F Z s m U->(∀v s U,cQ C F Z s m U->Q v U->W v s)->br (bR C.prog C.w) F.A (allTrue op es F.env) W (λ V V=>False) s
theorem Im{Q:Bool->AH->Prop}(h:WA C F n op es m U Q):WT C F n (.BoolOp op es pos) m U Q:=λ O Z s W R K=>wpAny_isTrue_BoolOp (h O Z s _ R K)
theorem ze{Q:Bool->AH->Prop}(h:Q true U):WA C F n .And [] m U Q:=λ O Z s W R K=>wpAny_allTrue_And_nil (K _ _ _ R h)
theorem Cf{Q:Bool->AH->Prop}(h:Q false U):WA C F n .Or [] m U Q:=λ O Z s W R K=>wpAny_allTrue_Or_nil (K _ _ _ R h)
theorem La{Q:Bool->AH->Prop}(h:WT C F n e m U λ b U1=>if b then WA C F n .And es m U1 Q else Q false U1):WA C F n .And (e::es) m U Q:=λ O Z s W R K=>by
 refine wpAny_allTrue_And_cons (h O Z s _ R λ b s₁ U1 R₁ Ut=>?_)
 cases b with
 | true=>exact Ut O Z s₁ _ R₁ K
 | false=>exact (K _ _ _ R₁ Ut)
theorem OJ{Q:Bool->AH->Prop}(h:WT C F n e m U λ b U1=>if b then Q true U1 else WA C F n .Or es m U1 Q):WA C F n .Or (e::es) m U Q:=λ O Z s W R K=>by
 refine wpAny_allTrue_Or_cons (h O Z s _ R λ b s₁ U1 R₁ Ut=>?_)
 cases b with
 | false=>exact Ut O Z s₁ _ R₁ K
 | true=>exact (K _ _ _ R₁ Ut)
theorem K9{Q:Bool->AH->Prop}(hm:iX op r=false)(h:WE C F n l m U λ a U1=>WE C F n r m U1 λ b Uq=>ji C F n (bm op) a b m Uq λ c Ux=>WV C F n lS (er c) m Ux Q):
  WT C F n (.Compare l [op] [r] pos) m U Q:=λ O Z s W R K=>
 wpAny_isTrue_Compare1 (h O Z s _ R λ a s₁ U1 R₁ Ut=>Ut O Z s₁ _ R₁ λ b s₂ Uq R₂ UL=>UL a b rfl rfl O Z s₂ _ R₂ λ c s₃ Ux R₃ h₃=>h₃ c rfl O Z s₃ _ R₃ K) hm
theorem J8{Q:Value->AH->Prop}(h:Q (vi (i+j)) U):ji C F n (fB .Add) (vi i) (vi j) m U (qe Q):=λ a b ha hb O Z s W R K=>lB ha λ t=>lB hb λ u=>(add_int (K _ _ _ (R.toks O) h))
theorem J2{Q:Value->AH->Prop}(h:Q (vi (i-j)) U):ji C F n (fB .Sub) (vi i) (vi j) m U (qe Q):=λ a b ha hb O Z s W R K=>lB ha λ t=>lB hb λ u=>(sub_int (K _ _ _ (R.toks O) h))
theorem J5{Q:Value->AH->Prop}(h:Q (vi (-i)) U):WV C F n (LX .USub) (vi i) m U (qe Q):=λ a ha O Z s W R K=>lB ha λ t=>(neg_int (K _ _ _ (R.toks O) h))
theorem KF{Q:Value->AH->Prop}(h:Q (.bool (decide (i<j))) U):ji C F n (bm .Lt) (vi i) (vi j) m U (qe Q):=λ a b ha hb O Z s W R K=>lB ha λ t=>lB hb λ u=>(lt_int (K _ _ _ R h))
theorem KG{Q:Value->AH->Prop}(h:Q (.bool (decide (i<=j))) U):ji C F n (bm .LtE) (vi i) (vi j) m U (qe Q):=λ a b ha hb O Z s W R K=>lB ha λ t=>lB hb λ u=>(le_int (K _ _ _ R h))
theorem KJ{Q:Value->AH->Prop}(h:Q (.bool (decide (i>j))) U):ji C F n (bm .Gt) (vi i) (vi j) m U (qe Q):=λ a b ha hb O Z s W R K=>lB ha λ t=>lB hb λ u=>(gt_int (K _ _ _ R h))
theorem KL{Q:Value->AH->Prop}(h:Q (.bool (decide (i>=j))) U):ji C F n (bm .GtE) (vi i) (vi j) m U (qe Q):=λ a b ha hb O Z s W R K=>lB ha λ t=>lB hb λ u=>(ge_int (K _ _ _ R h))
theorem KM{Q:Value->AH->Prop}(h:Q (.bool (decide (i=j))) U):ji C F n (bm .Eq) (vi i) (vi j) m U (qe Q):=λ a b ha hb O Z s W R K=>lB ha λ t=>lB hb λ u=>(eq_int (K _ _ _ R h))
theorem KE{Q:Value->AH->Prop}(h:Q (.bool (decide (i≠j))) U):ji C F n (bm .NotEq) (vi i) (vi j) m U (qe Q):=λ a b ha hb O Z s W R K=>by
 refine lB ha λ t=>lB hb λ u=>(ne_int (K _ _ _ R ?_))
 have:(i !=j)=decide (i≠j):=by by_cases q:i=j<;>simp [q]
 exact ah this h
theorem Ay{Q:Value->AH->Prop}(h:Q (.bool (i==j)) U):ji C F n (bm .Eq) (.bool i) (.bool j) m U (qe Q):=λ a b ha hb O Z s W R K=>Gp ha (Gp hb (eq_bool (K _ _ _ R h)))
theorem EN{Q:Value->AH->Prop}(h:Q (.bool false) U):ji C F n (bm .Eq) .none (.bool j) m U (qe Q):=λ a b ha hb O Z s W R K=>Pl ha (Gp hb (EqNone.eq_none_bool (K _ _ _ R h)))
theorem C_{Q:Bool->AH->Prop}(h:Q i U):WV C F n lS (.bool i) m U Q:=λ a ha O Z s W R K=>Gp ha (jB (K _ _ _ R h))
theorem FB{Q:ig->(Str->Option Value)->AH->Prop}(h:Q .next m U):WS C F n [] m U Q:=λ O Z s W R K=>Px (K _ _ _ _ R h)
theorem pT{Q:ig->(Str->Option Value)->AH->Prop}(h:W1 C F n b m U λ f m1 U1=>match f with | .next=>WS C F n r m1 U1 Q | f=>Q f m1 U1):WS C F n (b::r) m U Q:=λ O Z s W R K=>
 wpAny_execs_cons (h O Z s _ R λ f s₁ m1 U1 R₁ Ut=>by cases f<;>first | exact Ut O Z s₁ _ R₁ K | exact (K _ _ _ _ R₁ Ut))
theorem ud{Q:ig->(Str->Option Value)->AH->Prop}(h:WE C F n e m U λ v U1=>∀v',er v' =v->Q (.ret v') m U1):W1 C F n (.Return (some e) pos) m U Q:=λ O Z s W R K=>
 wpAny_Return_some (h O Z s _ R λ v s₁ U1 R₁ Ut=>(K _ _ _ _ R₁ (Ut v rfl)))
theorem zh{Q:ig->(Str->Option Value)->AH->Prop}(h:Q (.ret .none) m U):W1 C F n (.Return none pos) m U Q:=λ O Z s W R K=>
 wpAny_Return_none (K _ _ _ _ R h)
theorem OK{Q:ig->(Str->Option Value)->AH->Prop}(h:WT C F n t m U λ c U1=>if c then WS C F n b m U1 Q else WS C F n o m U1 Q):W1 C F n (.If t b o pos) m U Q:=λ O Z s W R K=>
 wpAny_If (h O Z s _ R λ c s₁ U1 R₁ Ut=>by cases c<;>exact Ut O Z s₁ _ R₁ K)
theorem qs{Q:ig->(Str->Option Value)->AH->Prop}(hs:iE e (some (.Name x p')) pos.line F.env=eu false)(S:Stores F x)(h:WE C F n e m U λ v U1=>Q .next (fA m x v) U1):
  W1 C F n (.Assign [.Name x p'] e pos) m U Q:=λ O Z s W R K=>
 wpAny_Assign_Name (h O Z s _ R λ v s₁ U1 R₁ Ut=>i7 O R₁ S λ s' R' =>(K _ _ _ _ R' Ut)) hs
end
end
section
structure Bk where
 A:eN
 A₀:eN
 outer:List Env
 base:Heap
 h₀:Heap
 L:Addr
noncomputable abbrev Fn(b:Bk)(qual:Str)(scope:Scope)(f:Addr)(Vj:Value):dD:=
 {A:=b.A.deeper (Ga qual scope b.L f Vj),fenv:=Ga qual scope b.L f Vj,env:=Ga qual scope b.L f Vj,outer:=b.outer,A₀:=b.A₀,base:=b.base,h₀:=b.h₀,L:=b.L,oL:=none,cells:=dz (b.L+1) scope.names []}
noncomputable def iN(h:Heap)(as:List Addr):List (Addr×Obj):=as.filterMap λ a=>(h.get? a).map λ o=>(a,o)
theorem bX:p∈iN h as↔p.1∈as/\h.get? p.1=some p.2:=by
 unfold iN
 refine gk CO ?_
 constructor
 ·intro Uv;refine aH Uv λ a ha e=>?_;clear Uv
  refine aH (aX.mp e) λ o ho Uy=>?_;subst Uy
  exact ⟨ha,ho⟩
 ·intro UB;refine aP UB λ a b=>?_;clear UB;exact bY p.1 a (ah b rfl)
theorem jh:∀(names:List (Str×eH)) (n lo:Nat) (Ur:List (Str×Addr)),(∀x∈Ur,lo<=x.2/\x.2<n)->Ur.Pairwise (λ x y=>x.2≠y.2)->lo<=n->
  (dz n names Ur).Pairwise (λ x y=>x.2≠y.2)/\∀x∈dz n names Ur,lo<=x.2
 | [],n,lo,Ur,h1,h2,_=>⟨h2,λ x hx=>(h1 x hx).1⟩
 | (nm,k)::r,n,lo,Ur,h1,h2,h3=>by
  unfold dz
  refine eC (λ V=>?_) λ V=>?_
  ·refine jh r (n+1) lo _ (λ x hx=>?_) (fh.mpr ⟨λ x hx=>?_,h2⟩) (ac h3 (ax _ _))
   ·rcases aM.mp hx with rfl | hx
    ·exact ⟨h3,aK _⟩
    ·have:=h1 x hx;exact ⟨this.1,jg this.2⟩
   ·have:=h1 x hx;exact ik (bP this.2)
  ·exact jh r n lo Ur h1 h2 h3
theorem gT{cm:Str->Option Value}(Y:CellsAre cm cs cells):∀x∈cs,∃o,(x.2,o)∈cells/\o.data=.cell (cm x.1):=by
 induction Y with
 | nil=>intro x hx;cases hx
 | cons hd _ ih=>
  intro x hx
  rcases aM.mp hx with rfl | hx
  ·exact bY _ (.head _) hd
  ·exact aH (ih x hx) λ o a b=>(bY o (.tail _ a) b)
theorem s9{cm:Str->Option Value}(Y:CellsAre cm cs cells):∀p∈cells,∃n,(n,p.1)∈cs:=by
 induction Y with
 | nil=>intro x hx;cases hx
 | cons hd _ ih=>
  intro x hx
  rcases aM.mp hx with rfl | hx
  ·exact ⟨_,.head _⟩
  ·exact aS (ih x hx) λ o a=>⟨o,.tail _ a⟩
noncomputable def kU(x:Str):Bool:=!(x==("__debug__":Str))&& !(x==("__classdict__":Str))
noncomputable def BB(l:List (Str×Value))(m:Str->Option Value):Str->Option Value:=l.foldl (λ m p=>fA m p.1 p.2) m
theorem sn(k:Str->Option eH):∀(binds:List (Str×Value)) (m mc Ur:Str->Option Value),
  (∀x v,Ur x=some v->kU x=true/\∃cv,er cv=v/\((k x=some .local/\m x=some cv)\/(k x=some .cell/\mc x=some cv)))->
  (∀p∈binds,kU p.1=true/\(k p.1=some .local\/k p.1=some .cell))->
  ∀x v,BB (binds.map λ p=>(p.1,er p.2)) Ur x=some v->kU x=true/\∃cv,er cv=v/\((k x=some .local/\bindL k binds m x=some cv)\/(k x=some .cell/\bindC k binds mc x=some cv))
 | [],m,mc,Ur,h,_=>h
 | (nm,v0)::r,m,mc,Ur,h,hb=>by
  intro x v hx
  refine sn k r _ _ (fA Ur nm (er v0)) ?_ (λ p hp=>hb p (.tail _ hp)) x v hx
  intro y w hy
  (try clear hx);refine aP (hb _ (.head _)) λ on kn=>?_
  unfold fA at hy
  split at hy
  ·rename_i e;clear hb;subst e;have UC:=sI hy;clear hy;subst UC
   refine ⟨on,v0,rfl,?_⟩
   rcases kn with kn | kn
   ·exact .inl ⟨kn,by simp at kn;simp [kn]⟩
   ·exact .inr ⟨kn,by simp at kn;simp [kn]⟩
  ·rename_i e
   obtain ⟨a,cv,b,c⟩:=h y w hy
   refine ⟨a,cv,b,?_⟩
   rcases c with ⟨c,d⟩ | ⟨c,d⟩
   ·refine .inl ⟨c,?_⟩;refine eC (λ V=>?_) λ V=>?_<;>simp [e,d]
   ·refine .inr ⟨c,?_⟩;refine eC (λ V=>?_) λ V=>?_<;>simp [e,d]
section
variable{C:Cx}{F:dD}{n:Nat}{m:Str->Option Value}{U:AH}{Z:List (Addr×Obj)}{s:aO}
theorem dD.Ok.withA(O:F.Ok C n)(h1:A'.frames=F.A.frames)(h2:A'.handled=none)(h3:A'.depth+3*k<=F.A.depth+3*n)(h4:A'.units+10*k<=F.A.units+10*n):
  dD.Ok C k {F with A:=A' }:=
 ⟨O.B,h1.trans O.hA,O.hf,O.hk,O.G,O.ek,O.eg,O.eb,O.el,O.ei,h2,O.capart,O.cloc,O.csub,O.cok,by have:=O.depth;exact ((au h3 this):A'.depth+3*k<_),by have:=O.units;exact ((au h4 this):A'.units+10*k<_)⟩
theorem cQ.withA(R:cQ C F Z s m U):cQ C {F with A:=A' } Z s m U:=⟨R.core,R.fr,R.inn,R.loc,R.var,R.cel,R.own,R.zz,R.sg,R.sm⟩
theorem cQ.unA(R:cQ C {F with A:=A' } Z s m U):cQ C F Z s m U:=⟨R.core,R.fr,R.inn,R.loc,R.var,R.cel,R.own,R.zz,R.sg,R.sm⟩
theorem wD{vs:List Value}(h:vs.length=1):∃a,vs=[a]:=mD.mp h
theorem ma{vs:List Value}(h:vs.length=2):∃a b,vs=[a,b]:=by
 cases vs with
 | nil=>cases h
 | cons a r=>refine aS (wD (jI h)) λ b UF=>?_;subst UF;exact Aq a b rfl
theorem BF{vs:List Value}(h:vs.length=3):∃a b c,vs=[a,b,c]:=by
 cases vs with
 | nil=>cases h
 | cons a r=>refine fM (ma (jI h)) λ b c UP=>?_;subst UP;exact Ap a b c rfl
theorem PV{vs:List Value}(h:vs.length=4):∃a b c d,vs=[a,b,c,d]:=by
 cases vs with
 | nil=>cases h
 | cons a r=>refine kJ (BF (jI h)) λ b c d UQ=>?_;subst UQ;exact Oe a b c d rfl
theorem FQ{names:List Str}{Q:Value->AH->Prop}
  (ho:C.K.lookup f=some ⟨oc,od,.func (TJ name qual params body scope dV kV Xe pm an Vj ct),Yp⟩) (VU:RO C.K Vj qual=true)
  (hlen:args.length=names.length)
  (VH:∀vs:List Value,vs.length=names.length->IL (TJ name qual params body scope dV kV Xe pm an Vj ct) ⟨vs,[]⟩=eu (names.zip vs))
  (hkind:∀x∈names,kU x=true/\(scope.names.lookup x=some .local\/scope.names.lookup x=some .cell))
  (hnd:((dz 0 scope.names []).map (·.1)).Nodup) (WZ:∀x∈scope.names,x.2≠ .free)
  (Yw:scope.isCoroutine=false) (WN:scope.isGenerator=false) (hk:scope.kind=.function)
  (hw:∀b:Bk,WS C (Fn b qual scope f Vj) n body (BB (names.zip args) λ V=>none) U λ fl V U' =>Q (er (match fl with | .ret v=>v | _=> .none)) U'):
  WC C (n+1) f args U Q:=by
 intro F Z s m Us O R Vi
 refine aS R.fr λ mL FR=>?_
 have hlen' :Us.length=names.length:=dt hlen (dt Vi (ah (ag ..) rfl))
 --the ledger
 let own:=iN s.heap F.ownA
 let sg:=iN s.heap (U.map (·.1))
 have N:qC F.h₀ F.L s.heap (Z++own++sg):=by
  intro p hp
  rcases az.mp hp with hp | hp
  ·rcases az.mp hp with hp | hp
   ·exact fE (R.zz p hp) λ a b c V=>(dn a b c)
   ·refine aP (bX.mp hp) λ a b=>(aP (R.own _ a) λ UT V=>(ck UT λ V c d=>?_));clear UT;exact dn b c d
  ·refine aP (bX.mp hp) λ a b=>(aS (AH.dom a) λ o e=>(aP (R.sg _ _ e) λ U9 V=>(ck U9 λ V c d=>?_)));clear U9;exact dn b c d
 have hsub:names.zip args=(names.zip Us).map λ p=>(p.1,er p.2):=dt Vi (ae kM rfl)
 refine callX_cells (binds:=names.zip Us) O.B FR N O.G.T.nolimit O.hA O.hf O.hk (O.G.X.keeps FR.keep _ _ ho) rfl (codeRec_of (O.G.X.keeps FR.keep) VU) (by have:=O.depth;exact au (ax _ _) this)
  (tA (VH Us hlen')) ?_ hnd ?_ Yw WN hk
 ·intro k x hx
  have hxn:x.1∈names:=(gB (a:=x.1) (b:=x.2) hx).1
  rcases (hkind _ hxn).2 with q | q
  ·exact .inl q
  ·exact .inr ⟨q,gv _ _ _ (.inl q)⟩
 intro g L' Ut tk cells FG F' N' Y B' st lt
 have Wh:=jh scope.names (L' +1) (L' +1) [] (λ V h=>nomatch h) .nil (aw _)
 let b:Bk:=⟨F.A,F.A,F.fenv::F.outer,F.base,g,L'⟩
 have O' :(Fn b qual scope f Vj).Ok C n:=by
  refine ⟨B',xM O.hA,rfl,hk,O.G.keeps st,hk,rfl,rfl,λ V=>rfl,(λ h=>nomatch h),O.handled,Wh.1,λ x hx=>?_,λ V V h=>h,λ x hx V=>?_,?_,?_⟩
  ·exact ik (bP (Wh.2 x hx))
  ·rcases hx with hx | hx
   ·exact cz.mp (gv _ _ _ (.inl hx))
   ·exact absurd rfl (WZ _ (mem_of_lookup hx))
  ·have:=O.depth;refine (?_:F.A.depth+1+3*n<_);exact N9 this
  ·have:=O.units;refine (?_:F.A.units+3+10*n<_);exact NZ this
 have cellLt:∀p∈cells,L' <p.1:=λ p hp=>aS (s9 Y p hp) λ nm q=>(Wh.2 _ q)
 have R' :cQ C (Fn b qual scope f Vj) (Z++own) {s with heap:=Ut,toks:=tk} (BB (names.zip args) λ V=>none) U:=by
  have NN:∀p∈Z++own++sg,Ut.get? p.1=some p.2/\p.1≠L' /\g.get? p.1=none:=λ p hp=>N' p (ak _ hp)
  have NC:∀p∈cells,Ut.get? p.1=some p.2/\p.1≠L' /\g.get? p.1=none:=λ p hp=>N' p (av _ hp)
  have cellOwn:∀a∈(Fn b qual scope f Vj).ownA,∃o,(a,o)∈cells:=by
   intro a ha
   simp only [dD.ownA,AQ,aV,if_false,cw] at ha
   refine aH (aF.mp ha) λ x hx UM=>?_;subst UM
   exact aH (gT Y x hx) λ o h V=>⟨o,h⟩
  refine ⟨R.core.upd,⟨_,F'⟩,(λ V h=>nomatch h),⟨_,F'.ns⟩,?_,?_,?_,?_,?_,R.sm⟩
  ·intro x v hx
   replace hx:=hsub▸hx
   obtain ⟨a,cv,e,q⟩:=sn (Ga qual scope L' f Vj).kindOf (names.zip Us) (λ V=>none) (λ V=>none) (λ V=>none) (λ V V h=>nomatch h)
    (λ p hp=>hkind _ (gB (a:=p.1) (b:=p.2) hp).1) x v hx
   simp only [kU,dL,dh] at a
   refine ⟨a.1,a.2,cv,e,?_⟩
   rcases q with ⟨k,q⟩ | ⟨k,q⟩
   ·exact .inl ⟨k,_,F'.ns,q⟩
   ·refine .inr ⟨.inl k,?_⟩
    have hs:((dz (L' +1) scope.names []).lookup x).isSome=true:=gv _ _ _ (.inl k)
    exact aS (cz.mp hs) λ c hc=>(aH (gT Y _ (mem_of_lookup hc)) λ o h hd=>⟨c,hc,o,(NC _ h).1,ae hd (congrArg _ q)⟩)
  ·intro x hx
   exact aH (gT Y x hx) λ o h hd=>(ib _ o ((NC _ h).1) hd)
  ·intro a ha
   refine aS (cellOwn a ha) λ o h=>(ck (NC _ h) λ h1 h2 h3=>(dn ⟨⟨o,h1⟩,h2,h3⟩ ?_ (λ p hp q=>?_)))
   ·cases q:U.get a with
    | none=>rfl
    | some ob=>
     refine aP (R.sg a ob q) λ UW V=>(aP UW λ Vg V=>?_);clear UW;obtain ⟨UN,e⟩:=Vg
     exact absurd (bz (lt (a,UN) (ak _ (bX.mpr ⟨AH.dom' q,e⟩))) (cellLt _ h)) (cC _)
   ·exact absurd (q▸bz (lt p (av _ hp)) (cellLt _ h)) (cC _)
  ·intro p hp
   refine ck (NN p (av _ hp)) λ a b c=>(ge a b c ?_)
   rcases az.mp hp with hp | hp
   ·exact (R.zz p hp).2.2.2
   ·exact (R.own _ (bX.mp hp).1).2.1
  ·intro a o e
   refine aP (R.sg a o e) λ UV q=>(ck UV λ Vs V V=>?_);clear UV;obtain ⟨ob,x⟩:=Vs
   exact ck (NN (a,ob) (ak _ (bX.mpr ⟨AH.dom' e,x⟩))) λ h1 h2 h3=>⟨⟨⟨ob,h1⟩,h2,h3⟩,q.keep λ o' ho' =>by replace ho' :=x▸ho';clear h2 h3 x;have U8:=sI ho';clear ho';subst U8;exact h1⟩
 refine dG (hw b O' _ _ _ R' λ fl s' m' U' Va hq=>(aS Va.fr λ Za X5 =>?_)) (λ V V q=>q) uw
 let sg' :=iN s'.heap (U'.map (·.1))
 refine t7 L' Za (Z++own++sg') X5 ?_ (λ FE NE=>⟨_,U',rfl,?_,hq,λ mL2 ZZ=>ah (gH ZZ.ns FR.ns) FE⟩)
 ·intro p hp
  rcases az.mp hp with hp | hp
  ·exact fE (Va.zz p hp) λ a b c V=>(dn a b c)
  ·refine aP (bX.mp hp) λ a b=>(aS (AH.dom a) λ o e=>(aP (Va.sg _ _ e) λ U7 V=>(ck U7 λ V c d=>?_)));clear U7;exact dn b c d
 ·--back in the caller's frame
  have ownKeep:∀a∈F.ownA,∀o,s.heap.get? a=some o->s'.heap.get? a=some o:=λ a ha o e=>
   (Va.zz (a,o) (ak _ (bX.mpr ⟨ha,e⟩))).1
  have locKeep:∀ml,s.heap.Ns F.env.locals ml->s'.heap.Ns F.env.locals ml:=λ ml h=>by
   cases hl:F.oL with
   | none=>
    have e:=O.el hl
    rw [e] at h⊢
    exact ah (gH h FR.ns) FE.ns
   | some o=>exact en h λ ob e=>ownKeep _ (by simp [dD.ownA,hl]) ob e
  refine ⟨Va.core,⟨mL,FE⟩,λ ml e=>?_,?_,λ x v hx=>?_,λ x hx=>?_,λ a ha=>?_,λ p hp=>?_,λ a o e=>?_,Va.sm⟩
  ·exact ah (gH (R.inn ml e) FR.ns) FE.ns
  ·exact aS R.loc λ ml h=>⟨ml,locKeep ml h⟩
  ·obtain ⟨a,a',cv,e,q⟩:=R.var x v hx
   refine ⟨a,a',cv,e,?_⟩
   rcases q with ⟨k,ml,hm,hv⟩ | ⟨k,c,hc,hv⟩
   ·exact .inl ⟨k,ml,locKeep ml hm,hv⟩
   ·exact .inr ⟨k,c,hc,dk hv λ o e=>ownKeep _ (by simp [dD.ownA];exact .inl ⟨_,mem_of_lookup hc⟩) o e⟩
  ·exact aS (R.cel x hx) λ cv h=>⟨cv,dk h λ o e=>ownKeep _ (by simp [dD.ownA];exact .inl ⟨_,hx⟩) o e⟩
  ·refine ck (R.own a ha) λ Ve b c=>(ck Ve λ Vr l2 l3=>?_);clear Ve;obtain ⟨o,ho⟩:=Vr
   exact dn ⟨⟨o,ownKeep a ha o ho⟩,l2,l3⟩ ((Va.zz (a,o) (ak _ (bX.mpr ⟨ha,ho⟩))).2.2.2) c
  ·exact fE (Va.zz p (av _ hp)) λ a b c d=>(fE (R.zz p hp) λ V b' c' V=>(ge a b' c' d))
  ·refine aP (Va.sg a o e) λ Vk q=>(ck Vk λ Vq V V=>?_);clear Vk;obtain ⟨ob,x⟩:=Vq
   exact ck (NE (a,ob) (ak _ (bX.mpr ⟨AH.dom' e,x⟩))) λ V h2 h3=>⟨⟨⟨ob,x⟩,h2,h3⟩,q⟩
end
end
section
section
variable{C:Cx}{F:dD}{n:Nat}{m:Str->Option Value}{U U' :AH}{Z:List (Addr×Obj)}{s s' :aO}
noncomputable def led(F:dD)(Z:List (Addr×Obj))(U:AH)(h:Heap):List (Addr×Obj):=Z++iN h F.ownA++iN h (U.map (·.1))
theorem cQ.news(R:cQ C F Z s m U):qC F.h₀ F.L s.heap (led F Z U s.heap):=by
 intro p hp
 rcases az.mp hp with hp | hp
 ·rcases az.mp hp with hp | hp
  ·exact fE (R.zz p hp) λ a b c V=>(dn a b c)
  ·refine aP (bX.mp hp) λ a b=>(aP (R.own _ a) λ Uv V=>(ck Uv λ V c d=>?_));clear Uv;exact dn b c d
 ·refine aP (bX.mp hp) λ a b=>(aS (AH.dom a) λ o e=>(aP (R.sg _ _ e) λ Uy V=>(ck Uy λ V c d=>?_)));clear Uy;exact dn b c d
theorem cQ.back(O:F.Ok C n)(R:cQ C F Z s m U){mL:Str->Option Value}(FR:Fr F.h₀ F.L s.heap mL)(c' :oP C s')(FE:Fr F.h₀ F.L s'.heap mL)(W:Addr->Prop)(hW:∀a,W a->∃o,U.get a=some o)
  (hk:∀p∈led F Z U s.heap,¬W p.1->s'.heap.get? p.1=some p.2)
  (XS:∀a o,U'.get a=some o->(U.get a=some o/\¬W a)\/((W a\/((∀p∈led F Z U s.heap,p.1≠a)/\3<a))/\th F s'.heap a/\At C s'.heap a o)):cQ C F Z s' m U' :=by
 have offO:∀a∈F.ownA,¬W a:=λ a ha h=>by refine aS (hW _ h) λ o e=>?_;replace e:=(R.own a ha).2.1▸e;exact (bH e).elim
 have offZ:∀p∈Z,¬W p.1:=λ p hp h=>by refine aS (hW _ h) λ o e=>?_;replace e:=(R.zz p hp).2.2.2▸e;exact (bH e).elim
 have ownKeep:∀a∈F.ownA,∀o,s.heap.get? a=some o->s'.heap.get? a=some o:=λ a ha o e=>
  hk (a,o) (av _ (ak _ (bX.mpr ⟨ha,e⟩))) (offO a ha)
 have locKeep:∀ml,s.heap.Ns F.env.locals ml->s'.heap.Ns F.env.locals ml:=λ ml h=>by
  cases hl:F.oL with
  | none=>
   have e:=O.el hl
   rw [e] at h⊢
   exact ah (gH h FR.ns) FE.ns
  | some o=>exact en h λ ob e=>ownKeep _ (by simp [dD.ownA,hl]) ob e
 have none' :∀a,U.get a=none->(∃p∈led F Z U s.heap,p.1=a)->U'.get a=none:=λ a ha UB=>by
  refine aH UB λ p hp hpa=>?_;clear UB
  cases q:U'.get a with
  | none=>rfl
  | some o=>
   rcases XS a o q with h | ⟨h | h,_⟩
   ·replace h:=ha▸h;cases h.1
   ·refine aS (hW _ h) λ o e=>?_;replace e:=ha▸e;exact (bH e).elim
   ·exact absurd hpa (h.1 p hp)
 refine ⟨c',⟨mL,FE⟩,λ ml e=>?_,?_,λ x v hx=>?_,λ x hx=>?_,λ a ha=>?_,λ p hp=>?_,λ a o e=>?_,λ a o e=>?_⟩
 ·exact ah (gH (R.inn ml e) FR.ns) FE.ns
 ·exact aS R.loc λ ml h=>⟨ml,locKeep ml h⟩
 ·obtain ⟨a,a',cv,e,q⟩:=R.var x v hx
  refine ⟨a,a',cv,e,?_⟩
  rcases q with ⟨k,ml,hm,hv⟩ | ⟨k,c,hc,hv⟩
  ·exact .inl ⟨k,ml,locKeep ml hm,hv⟩
  ·exact .inr ⟨k,c,hc,dk hv λ o e=>ownKeep _ (by simp [dD.ownA];exact .inl ⟨_,mem_of_lookup hc⟩) o e⟩
 ·exact aS (R.cel x hx) λ cv h=>⟨cv,dk h λ o e=>ownKeep _ (by simp [dD.ownA];exact .inl ⟨_,hx⟩) o e⟩
 ·refine ck (R.own a ha) λ UC b c=>(ck UC λ UW l2 l3=>?_);clear UC;obtain ⟨o,ho⟩:=UW
  exact dn ⟨⟨o,ownKeep a ha o ho⟩,l2,l3⟩ (none' a b ⟨(a,o),av _ (ak _ (bX.mpr ⟨ha,ho⟩)),rfl⟩) c
 ·refine fE (R.zz p hp) λ a b c d=>?_
  have hm:p∈led F Z U s.heap:=av _ (av _ hp)
  exact ge (hk p hm (offZ p hp)) b c (none' _ d ⟨p,hm,rfl⟩)
 ·rcases XS a o e with ⟨h,hw⟩ | ⟨_,hl,ha⟩
  ·refine aP (R.sg a o h) λ UF d=>(ck UF λ UV b c=>?_);clear UF;obtain ⟨ob,x⟩:=UV
   have hx:=hk (a,ob) (ak _ (bX.mpr ⟨AH.dom' h,x⟩)) hw
   exact ⟨⟨⟨ob,hx⟩,b,c⟩,d.keep λ o' ho' =>by replace ho' :=x▸ho';(try clear x);have UP:=sI ho';clear ho';subst UP;exact hx⟩
  ·exact ⟨hl,ha⟩
 ·rcases XS a o e with ⟨h,_⟩ | ⟨h | h,_⟩
  ·exact R.sm a o h
  ·exact aS (hW _ h) λ o e=>(R.sm _ _ e)
  ·exact h.2
theorem cQ.turn(O:F.Ok C n)(R:cQ C F Z s m U)(hg:U.get a=some ao)(ho:s.heap.get? a=some ob):
  ∃mL rest,Fr F.h₀ F.L s.heap mL/\qC F.h₀ F.L s.heap ((a,ob)::rest)/\(∀p∈rest,p.1≠a)/\
   (∀s',oP C s' ->Fr F.h₀ F.L s'.heap mL->∀UN ZV,qC F.h₀ F.L s'.heap ((a,UN)::rest)->At C s'.heap a ZV ->cQ C F Z s' m (U.put a ZV)):=by
 refine aS R.fr λ mL FR=>(pE mL ((led F Z U s.heap).filter (λ p=>p.1 !=a)) FR ?_ ?_ ?_)
 ·intro p hp
  rcases aM.mp hp with rfl | hp
  ·refine aP (R.sg _ _ hg) λ UQ V=>(ck UQ λ V b c=>?_);clear UQ;exact dn ho b c
  ·exact R.news p (bx.mp hp).1
 ·intro p hp;simpa using (bx.mp hp).2
 ·intro s' c' FE UN ZV NE ha
  refine R.back O FR c' FE (λ b=>b=a) (λ b e=>e▸⟨_,hg⟩) (λ p hp hw=>(NE p (.tail _ (bx.mpr ⟨hp,by simpa using hw⟩))).1) λ b o e=>?_
  replace e:=(AH.get_put ..)▸e
  split at e
  ·rename_i h;clear hg ho;subst h;have UT:=sI e;clear e;subst UT
   exact ck (NE (b,UN) (.head _)) λ x y z=>(.inr ⟨.inl rfl,⟨⟨_,x⟩,y,z⟩,ha⟩)
  ·rename_i h;exact .inl ⟨e,h⟩
noncomputable def j5:List (Str×Value)->Str->Value->List (Str×Value)
 | [],x,v=>[(x,v)]
 | (y,w)::r,x,v=>if y=x then (y,v)::r else (y,w)::j5 r x v
theorem zS(y:Str)(w:Value)(r:List (Str×Value))(x:Str)(v:Value):j5 ((y,w)::r) x v=if y=x then (y,v)::r else (y,w)::j5 r x v:=rfl
theorem tS:(Value.str k t).isStr x=decide (k=x):=by
 refine (?_:(k==x)=_)
 by_cases h:k=x<;>simp [h]
noncomputable def nsLook(x:Str):List (Str×Value)->Option Value
 | []=>none
 | (y,w)::r=>if y=x then some w else nsLook x r
theorem DQ(x y:Str)(w:Value)(r:List (Str×Value)):nsLook x ((y,w)::r)=if y=x then some w else nsLook x r:=rfl
theorem qt.norefs(h:qt C es fs):es.any (·.refKey)=false:=by
 induction h with
 | nil=>rfl
 | cons hk _ _ _ ih=>
  refine aS hk λ t e=>?_;clear hk
  refine ae LI (ah ih ?_)
  unfold TT
  exact ah e rfl
theorem qt.getL(h:qt C es fs)(x:Str):
  match nsLook x fs with | some v=>∃cv,er cv=v/\vr x es=some (some cv) | none=>vr x es=some none:=by
 have hr:=h.norefs
 unfold vr
 refine ah hr ?_
 simp only [aV,if_false]
 clear hr
 induction h with
 | nil=>rfl
 | @cons e f es fs hk hh hv _ ih=>
  refine aS hk λ t ek=>?_;clear hk
  obtain ⟨y,w⟩:=f
  simp only at ek hv
  refine ah (DQ ..) (ah iH ?_)
  simp only [ek,tS]
  by_cases q:y=x
  ·simp only [q,decide_true,if_true]
   exact bY _ hv rfl
  ·simp only [q,decide_false,if_false];exact ih
theorem qt.put(h:qt C es fs)(x:Str)(t:Tok)(v:Value):qt C (putL x (sP C.w.params x) (.str x t) v es) (j5 fs x (er v)):=by
 induction h with
 | nil=>exact .cons ⟨t,rfl⟩ rfl rfl .nil
 | @cons e f es fs hk hh hv hr ih=>
  refine aS hk λ t' ek=>?_;clear hk
  obtain ⟨y,w⟩:=f
  simp only at ek hv hh
  unfold putL
  refine ah (zS ..) ?_
  simp only [ek,tS]
  by_cases q:y=x
  ·simp only [q,decide_true,if_true]
   exact .cons ⟨t',dt q rfl⟩ (ae hh (ah q rfl)) rfl hr
  ·simp only [q,decide_false,if_false,aV];exact .cons ⟨t',ek⟩ hh hv ih
theorem qt.length(h:qt C es fs):es.length=fs.length:=by
 induction h with
 | nil=>rfl
 | cons _ _ _ _ ih=>simp [ih]
theorem ut(fs:List (Str×Value))(x:Str)(v:Value):(j5 fs x v).length<=fs.length+1:=by
 induction fs with
 | nil=>exact aw _
 | cons f r ih=>obtain ⟨y,w⟩:=f;refine ah (zS ..) ?_;refine eC (λ V=>?_) λ V=>?_<;>simp only [bM]<;>lia
structure vm(K:Frag)(Cl:Addr):Prop where
 ga:ni K (.ref Cl) "__getattribute__"=some (some (.builtin "object.__getattribute__"))
 gn:ni K (.ref Cl) "__getattr__"=some none
 hd:hasDictIn K Cl=true
 sa:ni K (.ref Cl) "__setattr__"=some (some (.builtin "object.__setattr__"))
 po:plainOver K Cl=true
structure xm(K:Frag)(Cl:Addr)(name:Str)(f:Addr):Prop where
 at_:ni K (.ref Cl) name=some (some (.ref f))
 fn:isFn K (.ref f)=true
 keep:F9 K (.ref f)=true
theorem vm.pg{K:Frag}{Cl:Addr}(h:vm K Cl)(x:Str):plainGet K Cl x=true:=by
 unfold plainGet
 exact ah h.ga (ah h.gn rfl)
theorem tW(h:qy (er v)=true):qy v=true:=by cases v<;>first | rfl | exact h
theorem oE{x Cl dx:Addr}(h1:h.get? x=some (F_ Cl dx))(h2:h.get? dx=some (LD es k)):InstAt h x (F_ Cl dx) Cl (some (LD es k)):=⟨h1,rfl,rfl,h2⟩
theorem G2{x Cl dx:Addr}{fs:List (Str×Value)}{Q:Value->AH->Prop}(hx:U.get x=some (.inst Cl dx))(hd:U.get dx=some (.ns fs))(hl:nsLook attr fs=some v)
  (hC:vm C.K Cl) (hn:ni C.K (.ref Cl) attr=some none) (hv:qy v=true) (h:Q v U):WV C F n (λ o=>xG o attr true) (.ref x) m U (qe Q):=λ a ha O Z s W R K=>by
 refine lA ha (cu ((R.sg _ _ hd).2) λ es k he hes=>?_)
 have hg:=hes.getL attr
 replace hg:=hl▸hg
 (try clear hl);refine aH hg λ cv e V8 =>?_;clear hg
 (try clear hl);subst e
 exact aS R.fr λ mL FR=>(get_own FR O.G.X (oE (R.sg _ _ hx).2 he) (hC.pg _) hC.hd hn rfl V8 (tW hv) (K _ _ _ (R.toks O) h))
theorem vg{Q:Value->AH->Prop}(he:gb (.Attribute e attr pos) F.env=(do
   let o<-gb e F.env
   fT pos.atName
   let r<-fF [o] (xG o attr true)
   RI e o r
   eu r)) (h:WE C F n e m U λ o U1=>WV C F n (λ o=>xG o attr true) o m U1 (qe Q)):WE C F n (.Attribute e attr pos) m U Q:=λ O Z s W R K=>
 Attribute_any_ (h O Z s _ R λ o s₁ U1 R₁ Ut=>Ut o rfl O Z s₁ _ R₁ K) he
theorem Du{x Cl dx:Addr}{fs:List (Str×Value)}{E:Value->aO->Prop}{Q:Unit->aO->Prop}(O:F.Ok C n)(R:cQ C F Z s m U)(hx:U.get x=some (.inst Cl dx))(hd:U.get dx=some (.ns fs))
  (hC:vm C.K Cl) (ht:F6 C.K Cl attr=some none) (hz:fs.length<=900) (h:∀s',cQ C F Z s' m (U.put dx (.ns (j5 fs attr (er v))))->Q () s'):br (bR C.prog C.w) F.A (setAttr (.ref x) attr v) Q E s:=by
 refine cu ((R.sg _ _ hd).2) λ es k he hes=>(jo (R.turn O hd he) λ mL rest FR N off back=>?_)
 have hg:=hes.getL attr
 refine set_dict FR O.G.X N (oE (R.sg _ _ hx).2 he) rfl hC.sa hC.po ht hC.hd ?_ rfl (.head off) ?_ λ h' F' N' =>h _ (back _ R.core.upd F' _ _ N' ?_)
 ·split at hg
  ·refine aH hg λ cv V q=>?_;clear hg;exact ah q rfl
  ·exact ah hg rfl
 ·have:=hes.put attr (s.toks+1) v
  refine ah this.length ?_
  have:=ut fs attr (er v)
  exact Rc this hz
 ·exact ib _ _ ((N' _ (.head _)).1) (hes.put attr _ v)
theorem sF{Q:ig->(Str->Option Value)->AH->Prop}(hs:iE e (some (.Attribute o attr p')) pos.line F.env=eu false)
  (h:WE C F n e m U λ v U1=>WE C F n o m U1 λ ov Uq=>∃x Cl dx fs,ov=.ref x/\Uq.get x=some (.inst Cl dx)/\Uq.get dx=some (.ns fs)/\vm C.K Cl/\F6 C.K Cl attr=some none/\fs.length<=900/\Q .next m (Uq.put dx (.ns (j5 fs attr v)))):
  W1 C F n (.Assign [.Attribute o attr p'] e pos) m U Q:=λ O Z s W R K=>by
 refine plainObj_wpAny_Assign_Attribute (h O Z s _ R λ v s₁ U1 R₁ Ut=>Ut O Z s₁ _ R₁ λ ov s₂ Uq R₂ UO=>(Ez UO λ x Cl dx fs e hx hd hC ht hz hq=>?_)) hs;clear UO
 exact lA e (Du O R₂ hx hd hC ht hz λ s' R' =>(K _ _ _ _ R' hq))
noncomputable def WL(C:Cx)(F:dD)(n:Nat)(es:List Expr)(m:Str->Option Value)(U:AH)(Q:List Value->AH->Prop):Prop:=
 F.Ok C n->∀Z s pos W,cQ C F Z s m U->(∀vs s U,cQ C F Z s m U->Q (vs.map er) U->W vs s)->br (bR C.prog C.w) F.A (xF (fg pos (dj es F.env))) W (λ V V=>False) s
theorem oN{Q:List Value->AH->Prop}(h:Q [] U):WL C F n [] m U Q:=λ O Z s pos W R K=>spliced_none (K _ _ _ R h)
theorem jj{Q:List Value->AH->Prop}(he:∀env,dj (e::es) env=(false,gb e env)::dj es env)(h:WE C F n e m U λ v U1=>WL C F n es m U1 λ vs Uq=>Q (v::vs) Uq):WL C F n (e::es) m U Q:=λ O Z s pos W R K=>
 spliced_more (h O Z s _ R λ v s₁ U1 R₁ Ut=>Ut O Z s₁ pos _ R₁ λ vs s₂ Uq R₂ UL=>(K _ _ _ R₂ UL)) (he _)
noncomputable def ip(es:List Expr):Prop:=∀env pos,(fg pos (dj es env)).any (·.1)=false
theorem lO{E:Value->aO->Prop}{Q:Args->aO->Prop}(hp:ip es)
  (h:br M A (xF (fg pos (dj es env))) (λ vs s' =>Q ⟨vs,[]⟩ s') E s):br M A (evalArgs f true (fg pos (dj es env)) []) Q E s:=by
 have hp:=hp env pos
 revert h hp
 generalize fg pos (dj es env)=ts
 intro h hp
 match ts,h,hp with
 | [],h,_=>
  have:br M A (xF ([]:List (Bool×Sem Value))) (λ vs s' =>Q ⟨vs,[]⟩ s') E s:=h
  unfold evalArgs
  exact ((aj (dG h (λ vs s' h' =>(cR (aj (aD (aj (aD (aD h'))))))) λ V V x=>x)):br M A (xF []>>=_) Q E s)
 | (b,x)::r,h,hp=>
  have:b=false:=by simp at hp;exact hp.1
  (try clear hp);subst this
  exact evalArgs_plain h
theorem callWith_def{E:Value->aO->Prop}{Q:Value->aO->Prop}(hk:F9 C.K f=true)(hp:ip es)
  (h:br (bR C.prog C.w) A (xF (fg pos (dj es env))) (λ vs s₁=>C.K.In s₁.heap/\br (bR C.prog C.w) A (call f (first++vs)) Q E s₁) E s):br (bR C.prog C.w) A (lW pos f first (fg pos (dj es env)) []) Q E s:=
 Uc (((ah (hp ..) rfl):((fg pos (dj es env)).any (·.1) || false)=false)) (keeps_K hk) (lO hp h)
theorem WC.call{Q:Value->AH->Prop}(h:WC C k f args U Q)(O:F.Ok C k)(R:cQ C F Z s m U)(e:Us.map er=args)
  {W:Value->aO->Prop} (K:∀v s U,cQ C F Z s m U->Q (er v) U->W v s):br (bR C.prog C.w) F.A (PySem.call (.ref f) Us) W (λ V V=>False) s:=
 Lu (eS (h F Z s m Us O R e) λ r s' U9=>by obtain ⟨v,U',hr,R',q,_⟩:=U9;exact by subst hr;exact K _ _ _ R' q)
theorem Ir{US pos:Pos}{Q:Value->AH->Prop}
  (he:gb (.Call (.Attribute o name US) args [] pos) F.env=(do
   let ov<-gb o F.env
   fT US.atName
   let (f,first)<-fF [ov] (qY ov name pl)
   lW pos f first (fg pos (dj args F.env)) [])) (hp:ip args)
  (h:WE C F n o m U λ ov U1=>∃x Cl dx fs f,ov=.ref x/\U1.get x=some (.inst Cl dx)/\U1.get dx=some (.ns fs)/\nsLook name fs=none/\vm C.K Cl/\xm C.K Cl name f/\
   WL C F n args m U1 λ vs Uq=>WC C n f (.ref x::vs) Uq Q):WE C F n (.Call (.Attribute o name US) args [] pos) m U Q:=λ O Z s W R K=>by
 refine IN (pl:=pl) (h O Z s _ R λ ov s₁ U1 R₁ UO=>(Ar UO λ x Cl dx fs UM=>?_)) he;clear UO;refine Oo UM λ f e hx hd hl hC hM hw=>?_;clear UM
 refine lA e (cu ((R₁.sg _ _ hd).2) λ es k Xw hes=>?_)
 have hg:=hes.getL name
 replace hg:=hl▸hg
 exact aS R₁.fr λ mL FR=>(method_inst FR O.G.X (oE (R₁.sg _ _ hx).2 Xw) (hC.pg _) hM.at_ hM.fn hg (callWith_def hM.keep hp (hw O Z s₁ pos _ R₁ λ vs s₂ Uq R₂ hc=>⟨O.G.X.keeps R₂.keep,(hc.call O R₂ rfl K)⟩)))
theorem xg{Q:Value->AH->Prop}(hk:F.env.kindOf x=some .globalImplicit)(hx:pY C.K du x=some (some (.ref f)))(hd:(x==("__debug__":Str))=false)
  (hf:F9 C.K (.ref f)=true) (hp:ip args) (h:WL C F n args m U λ vs Uq=>WC C n f vs Uq Q):WE C F n (.Call (.Name x p) args [] pos) m U Q:=λ O Z s W R K=>by
 refine nZ (eX O.ek hk (to (ah O.eg (O.G.T.g.keeps R.keep)) (T_ O.G.X O.G.T.g hx) ?_) hd)
 exact callWith_def (first:=[]) hf hp (h O Z s pos _ R λ vs s₂ Uq R₂ hc=>⟨O.G.X.keeps R₂.keep,(hc.call O R₂ rfl K)⟩)
noncomputable def WB(C:Cx)(F:dD)(n:Nat)(f:Value)(args:List Value)(m:Str->Option Value)(U:AH)(Q:Value->AH->Prop):Prop:=∀Us,Us.map er=args->WO C F n (call f Us) m U Q
theorem mY{E:Value->aO->Prop}{id:String}{es:List Expr}{Q:Value->aO->Prop}(hp:ip es)
  (h:br M A (xF (fg pos (dj es env))) (λ vs s₁=>br M A (call (.builtin id) (first++vs)) Q E s₁) E s):br M A (lW pos (.builtin id) first (fg pos (dj es env)) []) Q E s:=
 callWith_builtin (hp _ _) (lO hp h)
theorem sD{args:List Expr}{b:String}{Q:Value->AH->Prop}(hk:F.env.kindOf x=some .globalImplicit)(hx:pY C.K du x=some none)(hb:fU x=some (.builtin b))(hn:x≠ "__name__")(hd:(x==("__debug__":Str))=false)
  (hp:ip args) (h:WL C F n args m U λ vs Uq=>WB C F n (.builtin b) vs m Uq (qe Q)):WE C F n (.Call (.Name x p) args [] pos) m U Q:=λ O Z s W R K=>by
 refine nZ (eX O.ek hk (lV (ah O.eg (O.G.T.g.keeps R.keep)) (zj O.G.X O.G.T.g hx) (ah O.eb (O.G.T.b.keeps R.keep)) ((O.G.T.builtins x hn).trans hb) ?_) hd)
 exact mY (first:=[]) hp (h O Z s pos _ R λ vs s₂ Uq R₂ hc=>hc vs rfl O Z s₂ _ R₂ K)
theorem sB{Q:Value->AH->Prop}(hk:F.env.kindOf x=some .globalImplicit)(hx:pY C.K du x=some none)(hb:fU x=some (.type b))(hn:x≠ "__name__")(hd:(x==("__debug__":Str))=false)
  (hp:ip args) (h:WL C F n args m U λ vs Uq=>WB C F n (.type b) vs m Uq (qe Q)):WE C F n (.Call (.Name x p) args [] pos) m U Q:=λ O Z s W R K=>by
 refine nZ (eX O.ek hk (lV (ah O.eg (O.G.T.g.keeps R.keep)) (zj O.G.X O.G.T.g hx) (ah O.eb (O.G.T.b.keeps R.keep)) ((O.G.T.builtins x hn).trans hb) ?_) hd)
 exact PE (hp _ _) (lO hp (h O Z s pos _ R λ vs s₂ Uq R₂ hc=>hc vs rfl O Z s₂ _ R₂ K))
theorem FH{args:List Expr}{id:String}{Q:Value->AH->Prop}
  (he:gb (.Call (.Attribute o name US) args [] pos) F.env=(do
   let ov<-gb o F.env
   fT US.atName
   let (f,first)<-fF [ov] (qY ov name pl)
   lW pos f first (fg pos (dj args F.env)) [])) (hp:ip args) (slot:Slot "list" name id) (Zw:typeOf (.builtin id)=eu (.type "method_descriptor"))
  (h:WE C F n o m U λ ov U1=>∃a xs,ov=.ref a/\U1.rd a=some (.list xs)/\WL C F n args m U1 λ vs Uq=>WB C F n (.builtin id) (.ref a::vs) m Uq (qe Q)):
  WE C F n (.Call (.Attribute o name US) args [] pos) m U Q:=λ O Z s W R K=>by
 refine IN (pl:=pl) (h O Z s _ R λ ov s₁ U1 R₁ UO=>(gJ UO λ a xs e ha hw=>?_)) he;clear UO
 exact lA e (cu (R₁.at ha) λ vs k hv V=>(L4 (T:="list") ⟨_,hv,rfl⟩ PySem.F.plainAttrs_list slot Zw (λ a e=>by cases e;exact bY _ hv rfl) (mY hp (hw O Z s₁ pos _ R₁ λ vs s₂ Uq R₂ hc=>hc _ rfl O Z s₂ _ R₂ K))))
theorem FJ{args:List Expr}{id:String}{Q:Value->AH->Prop}
  (he:gb (.Call (.Attribute o name US) args [] pos) F.env=(do
   let ov<-gb o F.env
   fT US.atName
   let (f,first)<-fF [ov] (qY ov name pl)
   lW pos f first (fg pos (dj args F.env)) [])) (hp:ip args) (slot:Slot "dict" name id) (Zw:typeOf (.builtin id)=eu (.type "method_descriptor"))
  (h:WE C F n o m U λ ov U1=>∃a kvs,ov=.ref a/\U1.rd a=some (.dict kvs)/\WL C F n args m U1 λ vs Uq=>WB C F n (.builtin id) (.ref a::vs) m Uq (qe Q)):
  WE C F n (.Call (.Attribute o name US) args [] pos) m U Q:=λ O Z s W R K=>by
 refine IN (pl:=pl) (h O Z s _ R λ ov s₁ U1 R₁ UO=>(gJ UO λ a xs e ha hw=>?_)) he;clear UO
 exact lA e (aH (R₁.at ha) λ vs hv V=>(L4 (T:="dict") hv.typeIs PySem.F.plainAttrs_dict slot Zw hv.mapOf.noDict (mY hp (hw O Z s₁ pos _ R₁ λ vs s₂ Uq R₂ hc=>hc _ rfl O Z s₂ _ R₂ K))))
theorem IB{Q:ig->(Str->Option Value)->AH->Prop}(hi:II F.env=false)(hs:iE e none pos.line F.env=eu false)(h:WE C F n e m U λ V U1=>Q .next m U1):W1 C F n (.Expr e pos) m U Q:=λ O Z s W R K=>
 wpAny_Expr_any (h O Z s _ R λ v s₁ U1 R₁ Ut=>(K _ _ _ _ R₁ Ut)) hi hs
theorem uc(h:l.map er=[a]):∃a',l=[a']/\er a' =a:=by
 cases l with
 | nil=>cases h
 | cons x r=>cases r with
  | nil=>simp at h;exact bY x rfl h
  | cons y r=>simp at h
theorem AG(h:l.map er=[a,b]):∃a' b',l=[a',b']/\er a' =a/\er b' =b:=by
 cases l with
 | nil=>cases h
 | cons x r=>
  simp only [aU,jr] at h
  exact aH (uc h.2) λ b' e hb=>(jG x b' (ah e rfl) h.1 hb)
theorem OA(h:l.map er=[a,b,c]):∃a' b' c',l=[a',b',c']/\er a' =a/\er b' =b/\er c' =c:=by
 cases l with
 | nil=>cases h
 | cons x r=>
  simp only [aU,jr] at h
  exact gJ (AG h.2) λ b' c' e hb hc=>(t6 x b' c' (ah e rfl) h.1 hb hc)
section
variable{P:List Value->Prop}{l:List Value}{a b c:Value}{x y:Addr}{i j:Int}
@[elab_as_elim] theorem OC(h:l.map er=[a])(k:∀a',er a' =a->P [a']):P l:=(uc h).elim λ a' q=>q.1▸k a' q.2
@[elab_as_elim] theorem OB(h:l.map er=[a,b])(k:∀a' b',er a' =a->er b' =b->P [a',b']):P l:=(AG h).elim λ a' q=>q.elim λ b' q=>q.1▸k a' b' q.2.1 q.2.2
@[elab_as_elim] theorem Rm(h:l.map er=[a,b,c])(k:∀a' b' c',er a' =a->er b' =b->er c' =c->P [a',b',c']):P l:=(OA h).elim λ a' q=>q.elim λ b' q=>q.elim λ c' q=>q.1▸k a' b' c' q.2.1 q.2.2.1 q.2.2.2
@[elab_as_elim] theorem aR(h:l.map er=[.ref x])(k:P [.ref x]):P l:=OC h λ a' e=>lA (P:=λ v=>P [v]) e k
@[elab_as_elim] theorem aI(h:l.map er=[vi i])(k:∀t,P [.int i t]):P l:=OC h λ a' e=>lB (P:=λ v=>P [v]) e k
@[elab_as_elim] theorem Rn(h:l.map er=[.ref x,b])(k:∀b',er b' =b->P [.ref x,b']):P l:=OB h λ a' b' e f=>lA (P:=λ v=>P [v,b']) e (k b' f)
@[elab_as_elim] theorem Ro(h:l.map er=[.ref x,.ref y])(k:P [.ref x,.ref y]):P l:=Rn h λ b' f=>lA (P:=λ v=>P [.ref x,v]) f k
@[elab_as_elim] theorem Sp(h:l.map er=[.ref x,vi i])(k:∀t,P [.ref x,.int i t]):P l:=Rn h λ b' f=>lB (P:=λ v=>P [.ref x,v]) f k
@[elab_as_elim] theorem Tn(h:l.map er=[vi i,vi j])(k:∀t u,P [.int i t,.int j u]):P l:=OB h λ a' b' e f=>lB (P:=λ v=>P [v,b']) e λ t=>lB (P:=λ v=>P [.int i t,v]) f (k t)
@[elab_as_elim] theorem K6(h:l.map er=[.ref x,vi i,c])(k:∀t c',er c' =c->P [.ref x,.int i t,c']):P l:=Rm h λ a' b' c' e f g=>lA (P:=λ v=>P [v,b',c']) e (lB (P:=λ v=>P [.ref x,v,c']) f λ t=>k t c' g)
end
theorem eK{vs xs:List Value}(h:vs.map er=xs):vs.length=xs.length:=dt h (ah (ag ..) rfl)
theorem lr{Q:Value->AH->Prop}(ha:U.get a=some (.list xs))(hz:xs.length<=10000000)(h:Q .none (U.put a (.list (xs++[v])))):WB C F n (.builtin "list.append") [.ref a,v] m U (qe Q):=λ Us e O Z s W R K=>by
 refine Rn e λ v' e2=>(cu ((R.sg _ _ ha).2) λ vs k hv hx=>(append_at (hsz:=?_) hv λ h' hs ho=>(K _ _ _ (R.set O R.core.upd ha (λ b o nb e=>(hs.2 b nb).trans e) (o:=.list (xs++[v])) ⟨vs++[v'],k+1,?_,?_⟩) h)))
 ·refine ((ae ho ?_):h'.get? a=_);simp
 ·exact ae aE (ah hx (ah aU (ah mB (ah e2 rfl))))
 ·have:=eK hx
  exact ah bc (ah b_ (ac (aC this) (ac hz (af _ _))))
end
end
section
noncomputable abbrev iV{K:Type}[DecidableEq K](kvs:List (K×Value))(k:K):Option Value:=dE kvs k
theorem fw{K:Type}[DecidableEq K](f:Value->Value)(kvs:List (K×Value))(k:K):dE (kvs.map λ p=>(p.1,f p.2)) k=(dE kvs k).map f:=by
 unfold dE
 exact ah JH (ae (GD ..) (ah (GD ..) rfl))
theorem j3{K:Type}[DecidableEq K](f:Value->Value)(kvs:List (K×Value))(k:K)(v:Value):(dM kvs k v).map (λ p=>(p.1,f p.2))=dM (kvs.map λ p=>(p.1,f p.2)) k (f v):=by
 have e:((kvs.map λ p=>(p.1,f p.2)).any λ kv=>decide (kv.1=k))=kvs.any λ kv=>decide (kv.1=k):=ae ky rfl
 unfold dM
 rewrite [e]
 split at⊢
 ·refine ae bI (ah bI (dq λ p V=>?_))
  simp only [Um]
  split at⊢<;>rfl
 ·exact ae aE rfl
theorem qH{K:Type}[DecidableEq K](f:Value->Value)(kvs:List (K×Value))(k:K):(kt kvs k).map (λ p=>(p.1,f p.2))=kt (kvs.map λ p=>(p.1,f p.2)) k:=by
 unfold kt
 exact ah nq rfl
theorem l5(C:Cx)(k:Int)(t:Tok):(iF C.prog C.w).is k (.int k t)=true:=by refine (?_:(k==k)=true);simp
theorem zG(C:Cx)(k:Str)(t:Tok):(strKind C.prog C.w).is k (.str k t)=true:=strKind_is C.prog C.w k t
section
variable{prog:Program}{w:jk}{A:eN}{E:Value->aO->Prop}{s:aO}{K:Type}[DecidableEq K]{knd:KeyKind prog w K}
theorem mV{key dflt:Value}{Q:Value->aO->Prop}(hkey:knd.is k key=true)(hm:s.heap.DictOf knd d kvs)
  (VS:∀v,dE kvs k=some v->Q v {s with toks:=s.toks+1})
  (hnew:dE kvs k=none->∀h',h'.DictOf knd d (dM kvs k dflt)->ff d s.heap h' ->Q dflt {s with heap:=h',toks:=s.toks+1})
  (hsz:kvs.length<=sizeLine):br (bR prog w) A (zm d key dflt) Q E s:=by
 refine Om hm λ o es ep ho hc hd hk hp hn=>?_;clear hm
 have hes:es.size<=sizeLine:=by
  have e1:=hp.length
  have e2:es.toList.length=es.size:=by simp
  exact ac (aC e1) hsz
 have hfind:∀x,(es.find? λ e=>knd.is x e.key).map (·.val)=dE kvs x:=λ x=>by
  refine dt (hp.find x) ?_;obtain ⟨l⟩:=es;simp
 have hidx:(es.findIdx? λ e=>knd.is k e.key)=kvs.findIdx? λ kv=>decide (kv.1=k):=by
  refine dt (hp.findIdx k) ?_;obtain ⟨l⟩:=es;simp
 unfold zm
 try with_reducible refine cR ?_
 refine aj (knd.pyHash hkey (aj (wpAny_dictFind_of (s:={s with toks:=s.toks+1}) hkey ho hd hk ?_)))
 cases hi:es.findIdx? λ e=>knd.is k e.key with
 | some i=>
  have hl:(es.toList.findIdx? λ e=>knd.is k e.key)=some i:=by refine dt hi ?_;obtain ⟨l⟩:=es;simp
  refine cX (hp.at hl) λ e he hek hev=>(aj (wpAny_dictEntries (s:={s with toks:=s.toks+1}) ho hd ?_))
  have he' :es[i]? =some e:=sV c_ he
  exact ah he' (aj (ki (aD (VS e.val hev))))
 | none=>
  have hnot:k∉kvs.map (·.1):=not_mem_of_findIdx_none (hidx▸hi)
  have hany:¬(kvs.any λ kv=>decide (kv.1=k))=true:=by
   refine gk dK ?_;intro Uv;refine aH Uv λ kv hkv he=>?_;clear Uv
   exact hnot (aF.mpr ⟨kv,hkv,of_decide_eq_true he⟩)
  have hv:dE kvs k=none:=by
   unfold dE
   exact ah (List.find?_eq_none.mpr (λ kv hkv q=>hnot (aF.mpr ⟨kv,hkv,of_decide_eq_true q⟩))) rfl
  refine aj (ki (aj (wpAny_updateDictKeys (hz:=hes) (s:={s with toks:=s.toks+1}) ho hd (aD (hnew hv _ ⟨_,_,ep+1,fu _ ho (Obj.isFreed_of_dict (Cq hd _)),
   hc.mapDictKeys _,Cq hd _,hk.push hkey _,?_,?_⟩ (dI ..))))))
  ·rewrite [dM];refine ah (if_neg hany) ?_
   have:=hp.append hkey (knd.hash k) dflt
   obtain ⟨l⟩:=es
   simpa using this
  ·rewrite [dM];refine ah (if_neg hany) (ah aE (gk cU (dn hn (by simp) ?_)))
   intro a ha b hb
   simp only [aU,mB,aq] at hb
   clear hany hi hidx hkey hnew VS hv;subst hb
   exact λ e=>hnot (e▸ha)
theorem rb{key dflt:Value}{Q:Value->aO->Prop}(hkey:knd.is k key=true)(hd:(d==lU)=false)(hm:s.heap.DictOf knd d kvs)
  (VS:∀v,dE kvs k=some v->Q v {s with toks:=s.toks+1})
  (hnew:dE kvs k=none->∀h',h'.DictOf knd d (dM kvs k dflt)->ff d s.heap h' ->Q dflt {s with heap:=h',toks:=s.toks+1})
  (hsz:kvs.length<=sizeLine):br (bR prog w) A (call (.builtin "dict.setdefault") [.ref d,key,dflt]) Q E s:=by
 refine lx (T:="dict") rh hm.typeIs PySem.F.entry_dict_setdefault (PySem.F.args_dict_setdefault_3 _ _ _)
  (S:=λ V R s=>∃kvs,s.heap.DictOf knd d kvs/\kvs.length<=sizeLine/\(∀v,dE kvs k=some v->R (.ok (.ret v)) {s with toks:=s.toks+1})/\
   (dE kvs k=none->∀h',h'.DictOf knd d (dM kvs k dflt)->ff d s.heap h' ->R (.ok (.ret dflt)) {s with heap:=h',toks:=s.toks+1}))
  (.of_wp λ A R s ⟨kvs,hm,hz,h1,h2⟩=>?_) ⟨kvs,hm,hsz,VS,hnew⟩
 unfold eU.«dict.setdefault»
 refine aj ?_
 unfold qd
 refine aj (Gr hm.typeIs (((aD (((ah (if_neg (by exact ah hd c9)) ?_):br _ _ (if (d==lU)=true then _ else (zm d key dflt>>=_)) _ _ s))):br _ _ (eu (d,key,some dflt)) _ _ s)))
 exact aj (mV hkey hm (λ v hv=>aD ⟨v,rfl,h1 v hv⟩) (λ hn h' Vo hs' =>aD ⟨dflt,rfl,h2 hn h' Vo hs'⟩) hz)
theorem mX{Q:Value->aO->Prop}(hkey:knd.is k key=true)(VK:rest=[]\/∃dflt,rest=[dflt])(WX:(keyPart key).isSome=true)(hm:s.heap.DictOf knd d kvs)
  (hv:dE kvs k=some v) (hQ:∀h',h'.DictOf knd d (kt kvs k)->ff d s.heap h' ->Q v {s with heap:=h',toks:=s.toks+1})
  (hsz:kvs.length<=sizeLine):br (bR prog w) A (call (.builtin "dict.pop") (.ref d::key::rest)) Q E s:=
 lx (T:="dict") mn hm.typeIs vt (by rcases VK with rfl | ⟨_,rfl⟩;exact PySem.F.args_dict_pop_2 _ _;exact ue _ _ _)
  (meets_dict_pop_there knd d hkey rest VK WX) ⟨kvs,v,hm,hsz,hv,hQ⟩
theorem tb{key dflt:Value}{Q:Value->aO->Prop}(hkey:knd.is k key=true)(hdm:(d==lU)=false)(WX:(keyPart key).isSome=true)(hm:s.heap.DictOf knd d kvs)
  (hv:dE kvs k=none) (hQ:∀tk,Q dflt {s with toks:=tk}):br (bR prog w) A (call (.builtin "dict.pop") [.ref d,key,dflt]) Q E s:=by
 refine lx (T:="dict") mn hm.typeIs vt (ue _ _ _)
  (S:=λ V R s=>∃kvs,s.heap.DictOf knd d kvs/\dE kvs k=none/\∀tk,R (.ok (.ret dflt)) {s with toks:=tk}) (.of_wp λ A R s ⟨kvs,hm,hv,h⟩=>?_) ⟨kvs,hm,hv,hQ⟩
 unfold eU.«dict.pop»
 refine aj ?_
 unfold qd
 refine aj (Gr hm.typeIs (((aD ?_):br _ _ (eu (d,key,some dflt)) _ _ s)))
 simp only [WX,if_true]
 refine aj (aD ?_)
 simp only [aV,if_false]
 refine aj (wpAny_takeOut_pairs_none hkey hm hv ?_)
 simp only [Option.isNone_none,if_true]
 exact aj (wpAny_missedRemoval_other hdm (aj (ki (aD ⟨dflt,rfl,h _⟩))))
end
section
variable{C:Cx}{F:dD}{n:Nat}{m:Str->Option Value}{U U' :AH}{Z:List (Addr×Obj)}{s s' :aO}
theorem cQ.size_none(R:cQ C F Z s m U):s.heap.get? s.heap.objs.size=none:=by
 cases q:s.heap.get? s.heap.objs.size with
 | none=>rfl
 | some o=>exact absurd (bT q) (cC _)
theorem cQ.push(O:F.Ok C n)(R:cQ C F Z s m U)(ha:At C (s.heap.push o) s.heap.objs.size ao):
  cQ C F Z {s with heap:=s.heap.push o,toks:=tk} m (U.put s.heap.objs.size ao)/\U.get s.heap.objs.size=none:=
 ⟨R.new O R.core.upd (λ V V e=>bb _ e) R.size_none (R.top O) ha,R.fresh R.size_none⟩
theorem Ig{h:Heap}{vs xs:List Value}(e:vs.map er=xs):At C (h.push (listOf vs.toArray 0)) h.objs.size (.list xs):=⟨vs,0,bp _ rfl,e⟩
theorem Fo{h:Heap}{vs xs:List Value}(e:vs.map er=xs):At C (h.push (tupO vs.toArray 0)) h.objs.size (.tup xs):=⟨vs,0,bp _ rfl,e⟩
theorem HT{Q:Value->AH->Prop}(hd:U.rd d=some (.dict kvs))(h:Q ((iV kvs k).getD .none) U):WB C F n (.builtin "dict.get") [.ref d,vi k] m U (qe Q):=λ Us e O Z s W R K=>by
 refine Sp e λ t=>(aH (R.at hd) λ UA hm hx=>(lx mo hm.typeIs vu (PySem.F.args_dict_get_2 _ _) (meets_dict_get (iF C.prog C.w) d (l5 C k t) ?_) ⟨_,hm.mapOf,K _ _ _ (R.toks O) ?_⟩))
 ·rcases AH.rd_get hd with q | ⟨_,q⟩<;>exact R.notSys q
 ·refine (?_:Q (er _) U)
  replace h:=dc hx▸h
  unfold iV at h
  replace h:=fw er UA k▸h
  cases q:dE UA k with
  | none=>replace h:=q▸h;exact h
  | some v=>replace h:=q▸h;exact h
theorem AC{Q:Value->AH->Prop}(hd:U.rd d=some (.dict kvs))(h:Q ((iV kvs k).getD dv) U):WB C F n (.builtin "dict.get") [.ref d,vi k,dv] m U (qe Q):=λ Us e O Z s W R K=>by
 refine K6 e λ t w' e3=>(aH (R.at hd) λ UA hm hx=>(lx mo hm.typeIs vu (PySem.F.args_dict_get_3 _ _ _) (meets_dict_get_default (iF C.prog C.w) d (l5 C k t) ?_ w') ⟨_,hm.mapOf,K _ _ _ (R.toks O) ?_⟩))
 ·rcases AH.rd_get hd with q | ⟨_,q⟩<;>exact R.notSys q
 ·refine (?_:Q (er _) U)
  replace h:=dc hx▸h
  unfold iV at h
  replace h:=fw er UA k▸h
  cases q:dE UA k with
  | none=>replace h:=q▸h;exact e3▸h
  | some v=>replace h:=q▸h;exact h
theorem oo{Q:Value->AH->Prop}(hd:U.get d=some (.dict kvs))(hz:kvs.length<=10000000)
  (h:match iV kvs k with | some v=>Q v U | none=>Q dv (U.put d (.dict (dM kvs k dv)))):WB C F n (.builtin "dict.setdefault") [.ref d,vi k,dv] m U (qe Q):=λ Us e O Z s W R K=>by
 refine K6 e λ t w' e3=>(aH ((R.sg _ _ hd).2) λ UA hm hx=>?_)
 have hv:iV kvs k=(dE UA k).map er:=dt hx (fw er UA k)
 have hl:UA.length=kvs.length:=dt hx (ah (ag ..) rfl)
 refine rb (l5 C k t) (R.notSys hd) hm (λ v q=>(K _ _ _ (R.toks O) ?_)) (λ q h' Vo hs=>(K _ _ _ (R.set O R.core.upd hd (λ b o nb e=>(hs.2 b nb).trans e) (o:=.dict (dM kvs k dv)) ⟨_,Vo,?_⟩) ?_)) ?_
 ·replace h:=q▸hv▸h;exact h
 ·rewrite [j3 er];exact ah hx (ah e3 rfl)
 ·replace h:=q▸hv▸h;exact ((ah e3 h):Q (er w') _)
 ·exact ah b_ (ac (aC hl) (ac hz (af _ _)))
theorem HP{Q:Value->AH->Prop}(hd:U.get d=some (.dict kvs))(hz:kvs.length<=10000000)
  (h:match iV kvs k with | some v=>Q v (U.put d (.dict (kt kvs k))) | none=>Q dv U):WB C F n (.builtin "dict.pop") [.ref d,vi k,dv] m U (qe Q):=λ Us e O Z s W R K=>by
 refine K6 e λ t w' e3=>(aH ((R.sg _ _ hd).2) λ UA hm hx=>?_)
 have hv:iV kvs k=(dE UA k).map er:=dt hx (fw er UA k)
 have hl:UA.length=kvs.length:=dt hx (ah (ag ..) rfl)
 cases q:dE UA k with
 | none=>
  refine tb (l5 C k t) (R.notSys hd) rfl hm q λ tk=>(K _ _ _ (R.toks O) ?_)
  replace h:=q▸hv▸h;exact ((ah e3 h):Q (er w') _)
 | some v=>
  refine mX (rest:=[w']) (l5 C k t) (.inr ⟨_,rfl⟩) rfl hm q (λ h' Vo hs=>(K _ _ _ (R.set O R.core.upd hd (λ b o nb e=>(hs.2 b nb).trans e) (o:=.dict (kt kvs k)) ⟨_,Vo,?_⟩) ?_)) ?_
  ·rewrite [qH er];exact ah hx rfl
  ·replace h:=q▸hv▸h;exact h
  ·exact ah b_ (ac (aC hl) (ac hz (af _ _)))
theorem HQ{Q:Value->AH->Prop}(hd:U.get d=some (.dict kvs))(hz:kvs.length<=10000000)(hk:iV kvs k=some v)
  (h:Q v (U.put d (.dict (kt kvs k)))):WB C F n (.builtin "dict.pop") [.ref d,vi k] m U (qe Q):=λ Us e O Z s W R K=>by
 refine Sp e λ t=>(aH ((R.sg _ _ hd).2) λ UA hm hx=>?_)
 have hv:iV kvs k=(dE UA k).map er:=dt hx (fw er UA k)
 have hl:UA.length=kvs.length:=dt hx (ah (ag ..) rfl)
 replace hv:=hk▸hv
 (try clear hk);cases q:dE UA k with
 | none=>replace hv:=q▸hv;exact (hV hv).elim
 | some v' =>
  replace hv:=q▸hv;(try clear hk);have Uy:=sI hv;clear hv;subst Uy
  refine mX (rest:=[]) (l5 C k t) (.inl rfl) rfl hm q (λ h' Vo hs=>(K _ _ _ (R.set O R.core.upd hd (λ b o nb e=>(hs.2 b nb).trans e) (o:=.dict (kt kvs k)) ⟨_,Vo,?_⟩) h)) ?_
  ·rewrite [qH er];exact ah hx rfl
  ·exact ah b_ (ac (aC hl) (ac hz (af _ _)))
theorem KI{Q:Value->AH->Prop}(hd:U.rd d=some (.dict kvs))(h:Q (.bool (iV kvs k).isSome) U):ji C F n (bm .In) (vi k) (.ref d) m U (qe Q):=λ a b ha hb O Z s W R K=>by
 refine lB ha λ t=>(lA hb (aH (R.at hd) λ UA hm hx=>(wpAny_in_of (l5 C k t) ?_ hm.mapOf (K _ _ _ (R.toks O) ?_))))
 ·rcases AH.rd_get hd with q | ⟨_,q⟩<;>exact R.notSys q
 ·have hv:iV kvs k=(dE UA k).map er:=dt hx (fw er UA k)
  replace h:=qb▸hv▸h;exact h
theorem BW{Q:Value->AH->Prop}(hd:U.rd d=some (.dict kvs))(h:Q (.bool (!(iV kvs k).isSome)) U):ji C F n (bm .NotIn) (vi k) (.ref d) m U (qe Q):=λ a b ha hb O Z s W R K=>by
 refine lB ha λ t=>(lA hb (aH (R.at hd) λ UA hm hx=>(wpAny_notIn_of (l5 C k t) ?_ hm.mapOf (K _ _ _ (R.toks O) ?_))))
 ·rcases AH.rd_get hd with q | ⟨_,q⟩<;>exact R.notSys q
 ·have hv:iV kvs k=(dE UA k).map er:=dt hx (fw er UA k)
  replace h:=qb▸hv▸h;exact h
noncomputable def WG(C:Cx)(F:dD)(n:Nat)(o i:Value)(m:Str->Option Value)(U:AH)(Q:Value->AH->Prop):Prop:=
 ∀o' i',er o' =o->er i' =i->F.Ok C n->∀Z s W,cQ C F Z s m U->(∀v s U,cQ C F Z s m U->Q (er v) U->W v s)->∃T id,s.TypeIs o' T/\typeLookup (.type T) "__getitem__"=eu (some (.builtin id))/\
  br (bR C.prog C.w) F.A (getItem o' i') W (λ V V=>False) s
noncomputable def AL(slice:Expr):Prop:=∀o i,∃VC,subscripted slice false o i=operate VC (getItem o i)
theorem FD{Q:Value->AH->Prop}(hs:AL slice)(h:WE C F n value m U λ o U1=>WE C F n slice m U1 λ i Uq=>WG C F n o i m Uq Q):WE C F n (.Subscript value slice pos) m U Q:=λ O Z s W R K=>
 LF (h O Z s _ R λ o s₁ U1 R₁ Ut=>Ut O Z s₁ _ R₁ λ i s₂ Uq R₂ UL=>gJ (UL o i rfl rfl O Z s₂ _ R₂ K) λ T id hT hl hg=>(aS (hs o i) λ VC e=>(RE hT hl hg e)))
theorem mU{Q:Value->AH->Prop}(ha:U.rd a=some (.list xs))(h0:0<=k)(hz:xs.length<=10000000)(hk:xs[k.toNat]? =some v)(h:Q v U):WG C F n (.ref a) (vi k) m U Q:=λ o' i' e1 e2 O Z s W R K=>by
 refine lA e1 (lB e2 λ t=>(cu (R.at ha) λ vs c hv hx=>?_))
 have hl:s.heap.IsList a vs.toArray:=⟨_,hv,rfl,_,rfl⟩
 replace hk:=ay▸dc hx▸hk
 refine aH (aX.mp hk) λ v' hv' UB=>?_;subst UB
 have hlt:=(al.mp hv').1
 have hlen:=eK hx
 exact jG ("list") _ hl.typeIs tj.lookup (wpAny_getItem_list hl h0 (by lia) (by simpa using hv') (K _ _ _ R h))
theorem Hq{Q:Value->AH->Prop}(ha:U.rd a=some (.tup xs))(h0:0<=k)(hz:xs.length<=10000000)(hk:xs[k.toNat]? =some v)(h:Q v U):WG C F n (.ref a) (vi k) m U Q:=λ o' i' e1 e2 O Z s W R K=>by
 refine lA e1 (lB e2 λ t=>(cu (R.at ha) λ vs c hv hx=>?_))
 have hl:IsTup s.heap a vs.toArray:=⟨_,hv,rfl,_,rfl⟩
 replace hk:=ay▸dc hx▸hk
 refine aH (aX.mp hk) λ v' hv' UC=>?_;subst UC
 have hlt:=(al.mp hv').1
 have hlen:=eK hx
 refine jG ("tuple") _ hl.typeIs slot_tuple_getitem.lookup (getItem_tuple (j:=k.toNat) hl (cM (by decide) h0) (by lia) ?_ (by simpa using hv') (K _ _ _ R h))
 unfold seqIndex?
 have h2:k<(vs.length:Int):=Rb hlt
 have h3:¬k<0:=jE.mpr h0
 simp [h0,h2,h3]
theorem pC{Q:Value->AH->Prop}(hd:U.rd d=some (.dict kvs))(hk:iV kvs k=some v)(h:Q v U):WG C F n (.ref d) (vi k) m U Q:=λ o' i' e1 e2 O Z s W R K=>by
 refine lA e1 (lB e2 λ t=>(aH (R.at hd) λ UA hm hx=>?_))
 have hv:iV kvs k=(dE UA k).map er:=dt hx (fw er UA k)
 replace hv:=hk▸hv
 (try clear hk);cases q:dE UA k with
 | none=>replace hv:=q▸hv;exact (hV hv).elim
 | some v' =>
  replace hv:=q▸hv;(try clear hk);have UF:=sI hv;clear hv;subst UF
  exact jG ("dict") _ hm.typeIs sO.lookup (OY (l5 C k t) hm.mapOf q (K _ _ _ (R.toks O) h))
theorem BR{Q:Value->AH->Prop}(hd:U.rd d=some (.sdict kvs))(hk:iV kvs k=some v)(h:Q v U):WG C F n (.ref d) (.str k 0) m U Q:=λ o' i' e1 e2 O Z s W R K=>by
 refine lA e1 (Pk e2 λ t=>(aH (R.at hd) λ UA hm hx=>?_))
 have hv:iV kvs k=(dE UA k).map er:=dt hx (fw er UA k)
 replace hv:=hk▸hv
 (try clear hk);cases q:dE UA k with
 | none=>replace hv:=q▸hv;exact (hV hv).elim
 | some v' =>
  replace hv:=q▸hv;(try clear hk);have UP:=sI hv;clear hv;subst UP
  exact jG ("dict") _ hm.typeIs sO.lookup (OY (zG C k t) hm.mapOf q (K _ _ _ (R.toks O) h))
noncomputable def WI(C:Cx)(F:dD)(n:Nat)(o i v:Value)(m:Str->Option Value)(U:AH)(Q:AH->Prop):Prop:=
 ∀o' i' v',er o' =o->er i' =i->er v' =v->WO C F n (setItem o' i' v') m U λ V U' =>Q U'
theorem zg{Q:ig->(Str->Option Value)->AH->Prop}(hs:iE e (some (.Subscript o i p')) pos.line F.env=eu false)
  (h:WE C F n e m U λ v U1=>WE C F n o m U1 λ ov Uq=>WE C F n i m Uq λ iv Ux=>WI C F n ov iv v m Ux λ U4=>Q .next m U4):
  W1 C F n (.Assign [.Subscript o i p'] e pos) m U Q:=λ O Z s W R K=>
 wpAny_Assign_Subscript (h O Z s _ R λ v s₁ U1 R₁ Ut=>Ut O Z s₁ _ R₁ λ ov s₂ Uq R₂ UL=>UL O Z s₂ _ R₂ λ iv s₃ Ux R₃ h₃=>
  h₃ ov iv v rfl rfl rfl O Z s₃ _ R₃ λ V s₄ U4 R₄ VE=>(K _ _ _ _ R₄ VE)) hs
theorem Dt{k:Int}{Q:AH->Prop}(ha:U.get a=some (.list xs))(h0:0<=k)(hz:xs.length<=10000000)(hk:k<xs.length)(h:Q (U.put a (.list (xs.set k.toNat v)))):WI C F n (.ref a) (vi k) v m U Q:=λ o' i' v' e1 e2 e3 O Z s W R K=>by
 refine lA e1 (lB e2 λ t=>(cu ((R.sg _ _ ha).2) λ vs c hv hx=>?_))
 have hlen:=eK hx
 refine ki_setAt hv h0 (fm hk (cM (bU.mpr hz) (by decide))) (ah bc (fm hk (bU.mpr (xb hlen (aw _))))) (K _ _ _ (R.set O R.core.upd ha (λ b o nb e=>(kr _ _ _ _ nb).trans e) (o:=.list (xs.set k.toNat v)) ⟨vs.set k.toNat v',c,?_,?_⟩) h)
 ·have:=zo hv (λ xs:Array Value=>xs.setIfInBounds k.toNat v')
  rewrite [if_pos (by simp)] at this
  have e:(vs.toArray.setIfInBounds k.toNat v')=(vs.set k.toNat v').toArray:=by simp
  replace this:=e▸this
  exact this
 ·exact ae Ma (ah hx (ah e3 rfl))
theorem qg{Q:AH->Prop}(hd:U.get d=some (.dict kvs))(hz:kvs.length<=10000000)(h:Q (U.put d (.dict (dM kvs k v)))):WI C F n (.ref d) (vi k) v m U Q:=λ o' i' v' e1 e2 e3 O Z s W R K=>by
 refine lA e1 (lB e2 λ t=>(aH ((R.sg _ _ hd).2) λ UA hm hx=>?_))
 have hl:UA.length=kvs.length:=dt hx (ah (ag ..) rfl)
 refine Jz (l5 C k t) hm (λ h' Vo hs=>(K _ _ _ (R.set O R.core.upd hd (λ b o nb e=>(hs.2 b nb).trans e) (o:=.dict (dM kvs k v)) ⟨_,Vo,?_⟩) h)) ?_
 ·rewrite [j3 er];exact ah hx (ah e3 rfl)
 ·exact ah b_ (ac (aC hl) (ac hz (af _ _)))
theorem Bn{Q:AH->Prop}(hd:U.get d=some (.sdict kvs))(hz:kvs.length<=10000000)(h:Q (U.put d (.sdict (dM kvs k v)))):WI C F n (.ref d) (.str k 0) v m U Q:=λ o' i' v' e1 e2 e3 O Z s W R K=>by
 refine lA e1 (Pk e2 λ t=>(aH ((R.sg _ _ hd).2) λ UA hm hx=>?_))
 have hl:UA.length=kvs.length:=dt hx (ah (ag ..) rfl)
 refine Jz (zG C k t) hm (λ h' Vo hs=>(K _ _ _ (R.set O R.core.upd hd (λ b o nb e=>(hs.2 b nb).trans e) (o:=.sdict (dM kvs k v)) ⟨_,Vo,?_⟩) h)) ?_
 ·rewrite [j3 er];exact ah hx (ah e3 rfl)
 ·exact ah b_ (ac (aC hl) (ac hz (af _ _)))
theorem It{Q:Value->AH->Prop}(h:WL C F n es m U λ vs U1=>vs.length<=10000000/\∀a,U1.get a=none->Q (.ref a) (U1.put a (.list vs))):WE C F n (.List es pos) m U Q:=λ O Z s W R K=>
 List_ (h O Z s pos _ R λ vs s₁ U1 R₁ UQ=>by refine aP UQ λ hz Ut=>?_;clear UQ;exact na (K _ _ _ ((R₁.push O (Ig rfl)).1) (Ut _ (R₁.fresh R₁.size_none))) (by refine ah b_ ?_;replace hz:=(ag ..)▸hz;exact ac hz (af _ _)))
theorem sA{Q:Value->AH->Prop}(h:WL C F n es m U λ vs U1=>vs.length<=10000000/\∀a,U1.get a=none->Q (.ref a) (U1.put a (.tup vs))):WE C F n (.Tuple es k pos) m U Q:=λ O Z s W R K=>
 Tuple_ (h O Z s pos _ R λ vs s₁ U1 R₁ UT=>by refine aP UT λ hz Ut=>?_;clear UT;exact zi (K _ _ _ ((R₁.push O (Fo rfl)).1) (Ut _ (R₁.fresh R₁.size_none))) (by refine ah b_ ?_;replace hz:=(ag ..)▸hz;exact ac hz (af _ _)))
theorem FL{Q:Value->AH->Prop}(h:∀a,U.get a=none->Q (.ref a) (U.put a (.dict []))):WE C F n (.Dict [] [] pos) m U Q:=λ O Z s W R K=>
 wpAny_Dict_empty (K _ _ _ ((R.push O (ao:=.dict []) ⟨[],lc _,rfl⟩).1) (h _ (R.fresh R.size_none)))
theorem EY{Q:Value->AH->Prop}(h:Q (vi i.natAbs) U):WB C F n (.builtin "abs") [vi i] m U (qe Q):=λ Us e O Z s W R K=>by
 refine aI e λ t=>(TN λ u tk=>(K _ _ _ (R.toks O) ?_))
 have e:(if i<0 then-i else i)=(i.natAbs:Int):=by refine eC (λ V=>?_) λ V=>?_<;>lia
 exact ah e h
theorem EX{Q:Value->AH->Prop}(ha:U.rd a=some (.list xs))(hz:xs.length<=10000000)(h:Q (vi xs.length) U):WB C F n (.builtin "len") [.ref a] m U (qe Q):=λ Us e O Z s W R K=>by
 refine aR e (cu (R.at ha) λ vs c hv hx=>?_)
 have hlen:=eK hx
 refine len_list (items:=vs.toArray) ⟨_,hv,rfl,_,rfl⟩ (by refine ah bc ?_;lia) (K _ _ _ (R.toks O) ?_)
 exact ah bc (ah hlen h)
noncomputable def Te:Value->Bool
 | .none | .bool _ | .int .. | .ref _=>true
 | _=>false
theorem kK{Q:Value->AH->Prop}(hr:Te v=true)(h:Q (.bool (v==.none)) U):ji C F n (bm .Is) v .none m U (qe Q):=λ a b ha hb O Z s W R K=>by
 refine Pl hb ?_
 subst ha
 cases a<;>first
  | exact wpAny_is_self rfl (K _ _ _ R h)
  | exact wpAny_is_other rfl (by intro x;exact (cI mj x rfl).elim) (K _ _ _ R h)
  | exact (iP hr).elim
end
end
section
structure qv(C:Cx)(it:Addr)(xs:List Value)(YC:Heap->Prop)(P:Nat->Obj->Prop):Prop where
 item:∀{A:eN} {s:aO} {i:Nat} {ob:Obj} {v:Value} {Q:Option Value->aO->Prop} {E:Value->aO->Prop},P i ob->s.heap.get? it=some ob->YC s.heap->xs[i]? =some v->
  (∀v' h' tk UN,er v' =v->P (i+1) UN ->h'.get? it=some UN ->(∀b o,b≠it->s.heap.get? b=some o->h'.get? b=some o)->Q (some v') {s with heap:=h',toks:=tk})->br (bR C.prog C.w) A (jf (.ref it)) Q E s
 fin:∀{A:eN} {s:aO} {i:Nat} {ob:Obj} {Q:Option Value->aO->Prop} {E:Value->aO->Prop},A.handled=none->P i ob->s.heap.get? it=some ob->YC s.heap->xs[i]? =none->
  (∀h' tk,(∀b o,b≠it->s.heap.get? b=some o->h'.get? b=some o)->Q none {s with heap:=h',toks:=tk})->br (bR C.prog C.w) A (jf (.ref it)) Q E s
 again:∀{A:eN} {s:aO} {i:Nat} {ob:Obj} {Q:Value->aO->Prop} {E:Value->aO->Prop},P i ob->s.heap.get? it=some ob->Q (.ref it) s->br (bR C.prog C.w) A (qx (.ref it)) Q E s
 lets:∀{A:eN} {s:aO} {i:Nat} {ob:Obj} {t:Expr} {v:Value} {Q:Unit->aO->Prop} {E:Value->aO->Prop},P i ob->s.heap.get? it=some ob->Q () s->br (bR C.prog C.w) A (gU t (.ref it) v) Q E s
theorem rt{Q:Unit->aO->Prop}{E:Value->aO->Prop}{nm:String}{vs:Array Value}(ho:s.heap.get? it=some ob)(hc:ob.cls=.type nm)(hd:ob.data=.fields vs)
  (hn:(["enumerate","zip","dict_itemiterator","dict_reverseitemiterator","odict_iterator","itertools.zip_longest","itertools.pairwise"].contains nm)=false) (h:Q () s):br (bR prog w) A (gU t (.ref it) v) Q E s:=by
 have tl:∀es p,br (bR prog w) A (gU (.List es p) (.ref it) v) Q E s:=λ es p=>by
  cases v with
  | ref a=>
   refine aj (wpAny_load ho (ah hc (ah hd (((ah (if_neg (by exact ah hn c9)) ?_):br _ A (if (_&&_)=true then _ else _) Q E s)))))
   exact aD h
  | _=>exact aD h
 cases t with
 | Tuple es k p=>exact tl es p
 | List es p=>exact tl es p
 | _=>exact aD h
theorem BJ(C:Cx)(it l:Addr)(xs:List Value):qv C it xs (λ h=>At C h l (.list xs)) (λ i ob=>ob.cls=.type "list_iterator"/\ob.data=.fields #[.ref l,.int i 0]) where
 item:=λ{A s i ob v Q E} hP ho hd hx h=>by
  refine cu hd λ vs c hv e=>?_;clear hd
  replace hx:=ay▸dc e▸hx
  refine aH (aX.mp hx) λ v' hv' Uv=>?_;subst Uv
  exact wpAny_pyNext_list_item (items:=vs.toArray) ⟨ob,ho,hP⟩ ⟨_,hv,rfl,_,rfl⟩ (by simpa using hv') λ h' Uy hs=>by refine aH Uy λ UN ho' Wm =>?_;clear Uy;exact h v' h' s.toks UN rfl Wm ho' λ b o nb e=>(hs.2 b nb).trans e
 fin:=λ{A s i ob Q E} hA hP ho hd hx h=>by
  refine cu hd λ vs c hv e=>?_;clear hd
  replace hx:=ay▸dc e▸hx
  exact wpAny_pyNext_list_end (items:=vs.toArray) hA ⟨ob,ho,hP⟩ ⟨_,hv,rfl,_,rfl⟩ (by simpa using hx) λ h' hs=>h h' s.toks λ b o nb e=>hs b o nb e
 again:=λ{A s i ob Q E} hP ho h=>wpAny_pyIter_listiter (l:=l) (i:=i) ⟨ob,ho,hP⟩ h
 lets:=λ hP ho h=>rt ho hP.1 hP.2 (by decide) h
theorem Ed(C:Cx)(it l:Addr)(xs:List Value):qv C it xs (λ h=>At C h l (.tup xs)) (λ i ob=>ob.cls=.type "tuple_iterator"/\ob.data=.fields #[.ref l,.int i 0]) where
 item:=λ{A s i ob v Q E} hP ho hd hx h=>by
  refine cu hd λ vs c hv e=>?_;clear hd
  replace hx:=ay▸dc e▸hx
  refine aH (aX.mp hx) λ v' hv' UB=>?_;subst UB
  exact wpAny_pyNext_tuple_item (items:=vs.toArray) ⟨ob,ho,hP⟩ ⟨_,hv,rfl,_,rfl⟩ (by simpa using hv') λ h' UC hs=>by refine aH UC λ UN ho' Wm =>?_;clear UC;exact h v' h' s.toks UN rfl Wm ho' λ b o nb e=>(hs.2 b nb).trans e
 fin:=λ{A s i ob Q E} hA hP ho hd hx h=>by
  refine cu hd λ vs c hv e=>?_;clear hd
  replace hx:=ay▸dc e▸hx
  exact wpAny_pyNext_tuple_end (items:=vs.toArray) hA ⟨ob,ho,hP⟩ ⟨_,hv,rfl,_,rfl⟩ (by simpa using hx) λ h' hs=>h h' s.toks λ b o nb e=>hs b o nb e
 again:=λ{A s i ob Q E} hP ho h=>wpAny_pyIter_tupleiter (t:=l) (i:=i) ⟨ob,ho,hP⟩ h
 lets:=λ hP ho h=>rt ho hP.1 hP.2 (by decide) h
noncomputable def fX(lo:Int)(k:Nat):List Value:=(bk k).map λ(i:Nat)=>vi (lo+(i:Int))
theorem mG(lo:Int)(k i:Nat):(fX lo k)[i]? =if i<k then some (vi (lo+i)) else none:=by
 unfold fX
 refine ae ay ?_
 by_cases h:i<k
 ·exact ah (o7 h) (ah (if_pos h) rfl)
 ·exact ah (if_neg h) (ah (bD (by simp;exact b0 h)) rfl)
theorem dp(lo:Int)(k:Nat):(fX lo k).length=k:=by simp [fX]
theorem Ef(C:Cx)(it:Addr)(lo:Int)(k:Nat):qv C it (fX lo k) (λ V=>True) (λ i ob=>i<=k/\ob={cls:=.type "range_iterator",dict:=none,data:=.fields #[je (lo+i),je ((k:Int)-i),je 1],slots:=#[]}) where
 item:=λ{A s i ob v Q E} ⟨hk,hP⟩ ho hd hx h=>by
  subst hP
  replace hx:=(mG ..)▸hx
  split at hx
  ·rename_i hi
   have UF:=sI hx;clear hx;subst UF
   refine wpAny_pyNext_range_item ho (GJ (bQ.mpr hi)) λ h' hit hs=>h _ h' (s.toks+1) _ rfl ⟨hi,rfl⟩ ?_ λ b o nb e=>(hs.2 b nb).trans e
   have e1:lo+((i+1:Nat):Int)=lo+i+1:=Ra
   have e2:(k:Int)-((i+1:Nat):Int)=(k:Int)-i-1:=Q_
   exact ah e1 (ah e2 hit)
  ·exact (bH hx).elim
 fin:=λ{A s i ob Q E} hA ⟨hk,hP⟩ ho hd hx h=>by
  subst hP
  replace hx:=(mG ..)▸hx
  split at hx
  ·exact (hV hx).elim
  ·exact wpAny_pyNext_range_end hA ho (by lia) λ h' hs=>h h' s.toks λ b o nb e=>hs b o nb e
 again:=λ{A s i ob Q E} ⟨_,hP⟩ ho h=>by subst hP;exact wpAny_pyIter_rangeiter ho h
 lets:=λ q ho h=>by cases q.2;exact rt ho rfl rfl (by decide) h
theorem BK(C:Cx)(it d:Addr)(kvs:List (Int×Value))(ep:Nat):qv C it (kvs.map λ p=>vi p.1) (λ h=>h.DictAt (iF C.prog C.w) d kvs ep) (λ i ob=>ob.cls=.type "dict_keyiterator"/\ob.data=.fields #[.ref d,.int i 0,.int kvs.length 0,.int ep 0]) where
 item:=λ{A s i ob v Q E} hP ho hd hx h=>by
  replace hx:=ay▸hx
  refine aH (aX.mp hx) λ UP hv' UQ=>?_;obtain ⟨k,w⟩:=UP;subst UQ
  refine wpAny_pyNext_dict_item ⟨ob,ho,hP⟩ hd hv' λ key h' hkey ⟨UN,ho',Wm⟩ hs=>h key h' s.toks UN ?_ Wm ho' λ b o nb e=>(hs.2 b nb).trans e
  cases key with
  | int j t=>
   have:j=k:=by simpa [iF,L6] using hkey
   exact ah this rfl
  | _=>simp [iF,L6] at hkey
 fin:=λ{A s i ob Q E} hA hP ho hd hx h=>by
  replace hx:=ay▸hx
  exact wpAny_pyNext_dict_end hA ⟨ob,ho,hP⟩ hd (by simpa using hx) λ h' hs=>h h' s.toks λ b o nb e=>hs b o nb e
 again:=λ{A s i ob Q E} hP ho h=>wpAny_pyIter_keyiter (d:=d) ⟨ob,ho,hP⟩ h
 lets:=λ hP ho h=>rt ho hP.1 hP.2 (by decide) h
noncomputable def xk(C:Cx)(x:Value)(xs:List Value)(YC:Heap->Prop):Prop:=
 ∀(A:eN) (s:aO) (Q:Value->aO->Prop) (E:Value->aO->Prop),YC s.heap->
  (∀ob P VA,ob.isFreed=false->qv C s.heap.objs.size xs VA P->(∀h,YC h->VA h)->P 0 ob->Q (.ref s.heap.objs.size) {s with heap:=s.heap.push ob})->br (bR C.prog C.w) A (qx x) Q E s
theorem src_list(C:Cx)(l:Addr)(xs:List Value):xk C (.ref l) xs (λ h=>At C h l (.list xs)):=λ A s Q E hd h=>cu (id hd) λ vs c hv e=>(jC (items:=vs.toArray) ⟨_,hv,rfl,_,rfl⟩ (h _ _ _ rfl (BJ C _ l xs) (λ V x=>x) ⟨rfl,rfl⟩))
theorem GP(C:Cx)(l:Addr)(xs:List Value):xk C (.ref l) xs (λ h=>At C h l (.tup xs)):=λ A s Q E hd h=>cu (id hd) λ vs c hv e=>(Lq (items:=vs.toArray) ⟨_,hv,rfl,_,rfl⟩ (h _ _ _ rfl (Ed C _ l xs) (λ V x=>x) ⟨rfl,rfl⟩))
theorem GQ(C:Cx)(l:Addr)(lo:Int)(k:Nat):xk C (.ref l) (fX lo k) (λ h=>At C h l (.rng lo k)):=λ A s Q E ⟨b,t,u,v,hr,hk,hs⟩ h=>by
 refine wpAny_pyIter_range hr hs (h _ _ _ rfl (Ef C _ lo k) (λ V V=>trivial) ⟨a0 _,(ah hk ?_)⟩)
 have e1:lo+((0:Nat):Int)=lo:=Q9
 have e2:(k:Int)-((0:Nat):Int)=k:=Q8
 exact ah e1 (ah e2 rfl)
theorem Dp(C:Cx)(d:Addr)(kvs:List (Int×Value))(ep:Nat)(hd:(d==lU)=false):xk C (.ref d) (kvs.map λ p=>vi p.1) (λ h=>h.DictAt (iF C.prog C.w) d kvs ep):=λ A s Q E hm h=>
 wpAny_pyIter_dict hd hm (h _ _ _ rfl (BK C _ d kvs ep) (λ V x=>x) ⟨rfl,rfl⟩)
section
variable{C:Cx}{F:dD}{n:Nat}{m:Str->Option Value}{U U' :AH}{Z Y Y' :List (Addr×Obj)}{s s' :aO}
theorem cQ.stepZ(O:F.Ok C n)(R:cQ C F (Z++Y) s m U)(c' :oP C s')(hk:∀b o,(∀p∈Y,p.1≠b)->s.heap.get? b=some o->s'.heap.get? b=some o)
  (hY:∀p∈Y',s'.heap.get? p.1=some p.2/\((∃q∈Y,q.1=p.1)\/s.heap.get? p.1=none)) (hZ:∀p∈Z,∀q∈Y,q.1≠p.1):cQ C F (Z++Y') s' m U:=by
 have yz:∀p∈Y,s.heap.get? p.1=some p.2/\p.1≠F.L/\F.h₀.get? p.1=none/\U.get p.1=none:=λ p hp=>R.zz p (ak _ hp)
 have offL:∀p∈Y,p.1≠F.L:=λ p hp=>(yz p hp).2.1
 have offO:∀a∈F.ownA,∀p∈Y,p.1≠a:=λ a ha p hp=>(R.own a ha).2.2 p (ak _ hp)
 have offl:∀p∈Y,p.1≠F.env.locals:=λ p hp=>by
  cases hl:F.oL with
  | none=>exact ah (O.el hl) (offL p hp)
  | some o=>exact offO _ (by simp [dD.ownA,hl]) p hp
 have offc:∀x∈F.cells,∀p∈Y,p.1≠x.2:=λ x hx=>offO _ (by simp [dD.ownA];exact .inl ⟨_,hx⟩)
 have offG:∀a o,F.h₀.get? a=some o->∀p∈Y,p.1≠a:=λ a o h p hp q=>by have:=(yz p hp).2.2.1;replace this:=h▸q▸this;exact (hV this).elim
 have offσ:∀a o,U.get a=some o->∀p∈Y,p.1≠a:=λ a o h p hp q=>by have:=(yz p hp).2.2.2;replace this:=h▸q▸this;exact (hV this).elim
 refine aS R.fr λ mL f=>?_
 have live:∀a,(∀p∈Y,p.1≠a)->th F s.heap a->th F s'.heap a:=λ a h UT=>by refine ck UT λ Vs b c=>?_;clear UT;obtain ⟨o,x⟩:=Vs;exact dn ⟨o,hk _ _ h x⟩ b c
 have newp:∀p∈Y',p.1≠F.L/\F.h₀.get? p.1=none/\U.get p.1=none/\∀a∈F.ownA,p.1≠a:=λ p hp=>by
  rcases (hY p hp).2 with ⟨q,hq,e⟩ | h
  ·exact fE (yz q hq) λ V b c d=>(dt e (ge b c d (λ a ha=>offO a ha q hq)))
  ·refine ge (λ e=>?_) ?_ (R.fresh h) (λ a ha e=>?_)
   ·refine aS R.L_live λ o x=>?_;replace h:=x▸e▸h;exact (hV h).elim
   ·cases q:F.h₀.get? p.1 with
    | none=>rfl
    | some o=>replace h:=R.keep _ _ q▸h;exact (hV h).elim
   ·refine aP (R.own a ha) λ U9 V=>(aP U9 λ Vr V=>?_);clear U9;obtain ⟨o,x⟩:=Vr;replace h:=x▸e▸h;exact (hV h).elim
 refine ⟨c',⟨mL,en f.ns (λ o e=>hk _ _ offL e),λ b o e=>hk _ _ (offG b o e) (f.keep b o e),f.above⟩,λ ml e=>en (R.inn ml e) (λ o e=>hk _ _ offL e),?_,?_,?_,?_,?_,?_,R.sm⟩
 ·exact aS R.loc λ ml x=>⟨ml,en x λ o e=>hk _ _ offl e⟩
 ·intro x v hx
  obtain ⟨a,a',cv,e,h⟩:=R.var x v hx
  refine ⟨a,a',cv,e,?_⟩
  rcases h with ⟨k,ml,hn,hv⟩ | ⟨k,c,hc,hv⟩
  ·exact .inl ⟨k,ml,en hn λ o e=>hk _ _ offl e,hv⟩
  ·exact .inr ⟨k,c,hc,dk hv λ o e=>hk _ _ (offc _ (mem_of_lookup hc)) e⟩
 ·intro x hx;exact aS (R.cel x hx) λ cv h=>⟨cv,dk h λ o e=>hk _ _ (offc x hx) e⟩
 ·intro a ha
  refine ck (R.own a ha) λ l b c=>(dn (live a (offO a ha) l) b (λ p hp=>?_))
  rcases az.mp hp with hp | hp
  ·exact c p (av _ hp)
  ·exact (newp p hp).2.2.2 a ha
 ·intro p hp
  rcases az.mp hp with hp | hp
  ·exact fE (R.zz p (av _ hp)) λ a b c d=>(ge (hk _ _ (hZ p hp) a) b c d)
  ·exact fE (newp p hp) λ a b c V=>(ge ((hY p hp).1) a b c)
 ·intro a o e
  exact aP (R.sg a o e) λ l q=>⟨live a (offσ a o e) l,q.keep λ o' e' =>hk _ _ (offσ a o e) e'⟩
theorem cQ.dropZ(R:cQ C F (Z++Y) s m U):cQ C F Z s m U:=
 ⟨R.core,R.fr,R.inn,R.loc,R.var,R.cel,λ a ha=>let ⟨l,b,c⟩:=R.own a ha;⟨l,b,λ p hp=>c p (av _ hp)⟩,λ p hp=>R.zz p (av _ hp),R.sg,R.sm⟩
theorem cQ.nilZ(R:cQ C F Z s m U):cQ C F (Z++[]) s m U:=ah (cw ..) R
noncomputable abbrev Lh:=ig->(Str->Option Value)->AH->Prop
noncomputable def rk(Q:Lh)(J:(Str->Option Value)->AH->Prop):Lh:=λ f m U=>match f with
 | .next=>J m U
 | .cont=>J m U
 | .brk=>Q .next m U
 | .ret v=>Q (.ret v) m U
theorem FT(I:Nat->(Str->Option Value)->AH->Prop)(k:Nat)(h:I k m U)
  (turn:∀k m U,I k m U->WT C F n test m U λ b U1=>if b then WS C F n body m U1 (rk Q λ m' U' =>∃j,j<k/\I j m' U') else WS C F n orelse m U1 Q):
  W1 C F n (.While test body orelse pos) m U Q:=λ O Z s W R K=>by
 refine wpAny_While (codeAny_whileLoop (λ k s=>∃m U,cQ C F Z s m U/\I k m U) (λ k s UO=>(cu UO λ m U R hI=>?_)) k ⟨m,U,R,h⟩);clear UO
 refine dG (turn k m U hI O Z s _ R λ b s₁ U1 R₁ Ut=>?_) (λ V V q=>q) uw
 cases b with
 | true=>
  refine dG (Ut O Z s₁ _ R₁ λ f s₂ Vx Uq R₂ UL=>?_) (λ V V q=>q) uw
  cases f with
  | next=>refine aH UL λ j hj Wu =>?_;clear UL;exact ⟨j,hj,Vx,Uq,R₂,Wu⟩
  | cont=>refine aH UL λ j hj Wu =>?_;clear UL;exact ⟨j,hj,Vx,Uq,R₂,Wu⟩
  | brk=>exact (K _ _ _ _ R₂ UL)
  | ret v=>exact (K _ _ _ _ R₂ UL)
 | false=>exact dG (Ut O Z s₁ _ R₁ K) (λ V V q=>q) uw
noncomputable def fy:ba->Option (List Value)
 | .list xs=>some xs
 | .tup xs=>some xs
 | .rng lo k=>some (fX lo k)
 | .ro _ (.dict kvs)=>some (kvs.map λ p=>vi p.1)
 | _=>none
theorem x_(h:fy ao=some xs)(h3:3<a):xk C (.ref a) xs (λ h=>At C h a ao):=by
 have hsys:(a==lU)=false:=beq_false_of_ne (cj (bz (by decide) h3))
 cases ao with
 | list xs=>have UM:=sI h;clear h;subst UM;exact src_list C a _
 | tup xs=>have UW:=sI h;clear h;subst UW;exact GP C a _
 | rng lo k=>have UV:=sI h;clear h;subst UV;exact GQ C a _ _
 | ro o v=>cases v with
  | dict kvs=>
   have U8:=sI h;clear h;subst U8
   intro A s Q E hd k
   refine aP hd λ ho U7=>?_;clear hd;refine aH U7 λ UA hm hx=>?_;clear U7
   refine aS hm.dictAt λ ep hA=>?_
   have e:kvs.map (λ p=>vi p.1)=UA.map λ p=>vi p.1:=dt hx (ae bI rfl)
   replace k:=e▸k
   refine Dp C a UA ep hsys A s Q E hA λ ob P VA hf hit VN hP=>k ob P VA hf hit (λ h' hd' =>VN h' ?_) hP
   (try clear k);refine cu hA λ o' es ho' r=>?_;clear hA
   replace ho' :=ho▸ho';clear ho;have Ve:=sI ho';clear ho';subst Ve
   exact ib _ es hd'.1 r
  | _=>exact (bH h).elim
 | _=>exact (bH h).elim
noncomputable def AH.sees(U:AH)(a:Addr)(ao:ba):Prop:=U.get a=some ao\/U.rd a=some ao
theorem cQ.atS(R:cQ C F Z s m U)(h:U.sees a o):At C s.heap a o:=h.elim (λ h=>(R.sg _ _ h).2) R.at
theorem cQ.smS(R:cQ C F Z s m U)(h:U.sees a o):3<a:=h.elim (R.sm _ _) λ h=>(AH.rd_get h).elim (R.sm _ _) λ Vk=>by refine aS Vk λ V h=>?_;clear Vk;exact R.sm _ _ h
theorem wK{tp pos:Pos}{iter:Expr}{body:List Stmt}{E:Value->aO->Prop}{Q0:ig->aO->Prop}(O:F.Ok C n)(S:Stores F t)(Q:Lh){a:Addr}{ao:ba}{xs:List Value}(J:Nat->(Str->Option Value)->AH->Prop)
  (R₁:cQ C F Z s m U) (hi:fy ao=some xs) (h0:J 0 m U) (Vz:∀i m U,J i m U->U.sees a ao)
  (Vn:∀i v m U,xs[i]? =some v->J i m U->WS C F n body (fA m t v) U (rk Q (J (i+1)))) (Vu:∀m U,J xs.length m U->Q .next m U)
  (hQ:∀f s' m' U',cQ C F Z s' m' U' ->Q f m' U' ->Q0 f s'):
  br (bR C.prog C.w) F.A (qx (.ref a)) (λ it s₂=>iZ (bR C.prog C.w) F.A (.forLoop (.Name t tp) it body [] F.env) (λ r s' =>match r with | .ok f=>Q0 f s' | .error e=>cameBackBy (bR C.prog C.w) F.A F.env E e s') s₂) E s:=by
 have ha:=Vz 0 m U h0
 refine x_ hi (R₁.smS ha) _ _ _ _ (R₁.atS ha) λ ob P VA hf hit VN XH=>?_
 have hnew:s.heap.get? s.heap.objs.size=none:=R₁.size_none
 have hZ:∀UN :Obj,∀p∈Z,∀q∈[(s.heap.objs.size,UN)],q.1≠p.1:=λ UN p hp q hq e=>by
  replace e:=aq.mp hq▸e
  have:=(R₁.zz p hp).1
  replace this:=hnew▸dc e▸this;exact (bH this).elim
 have R₂:cQ C F (Z++[(s.heap.objs.size,ob)]) {s with heap:=s.heap.push ob} m U:=
  cQ.stepZ (s' :={s with heap:=s.heap.push ob}) (Y:=[]) (Y' :=[(s.heap.objs.size,ob)]) O R₁.nilZ ⟨R₁.core.gens,R₁.core.os,R₁.core.dr⟩ (λ b o V e=>bb ob e)
   (λ p hp=>ah (aq.mp hp) ⟨bp _ hf,.inr hnew⟩) (λ p V q hq=>absurd hq (dB))
 refine codeAny_forLoop (λ k s' =>∃i m U ob,k=xs.length-i/\i<=xs.length/\cQ C F (Z++[(s.heap.objs.size,ob)]) s' m U/\P i ob/\J i m U) (λ k s' UO=>(Jm UO λ i m' U' UN hk WM R' hP hJ=>?_)) (xs.length-0) ⟨0,m,U,ob,rfl,a0 _,R₂,XH,h0⟩;clear UO
 have Ws :=Vz i m' U' hJ
 have hob:s'.heap.get? s.heap.objs.size=some UN :=(R'.zz _ (ak _ (aN _))).1
 have hdep' :VA s'.heap:=VN _ (R'.atS Ws)
 cases hx:xs[i]? with
 | none=>
  refine hit.fin O.handled hP hob hdep' hx λ h' tk hk' =>?_
  have hil:i=xs.length:=by have:=vD.mp hx;exact a_ WM this
  clear hP WM hk hx;subst hil
  have Va :=R'.stepZ (s' :={s' with heap:=h',toks:=tk}) (Y' :=[]) O R'.core.upd (λ b o h e=>hk' b o (λ q=>h _ (aN _) q.symm) e) (λ p hp=>nomatch hp) (hZ UN)
  exact Px (hQ _ _ m' U' Va.dropZ (Vu _ _ hJ))
 | some v=>
  have hlt:=(al.mp hx).1
  refine hit.item hP hob hdep' hx λ v' h' tk X1 ev Wm Xv hk' =>?_
  have Va :=R'.stepZ (s' :={s' with heap:=h',toks:=tk}) (Y' :=[(s.heap.objs.size,X1)]) O R'.core.upd (λ b o h e=>hk' b o (λ q=>h _ (aN _) q.symm) e)
   (λ p hp=>ah (aq.mp hp) ⟨Xv,.inl ⟨_,aN _,rfl⟩⟩) (hZ UN)
  refine mw (i7 O Va S λ s₃ R₃=>?_)
  replace R₃:=ev▸R₃
  refine dG (Vn i v m' U' hx hJ O _ s₃ _ R₃ λ f s₄ m4 U4 R₄ VE=>?_) (λ V V q=>q) uw
  cases f with
  | next=>exact ⟨xs.length-(i+1),hk▸d9 hlt (aK i),i+1,m4,U4,X1,rfl,hlt,R₄,Wm,VE⟩
  | cont=>exact ⟨xs.length-(i+1),hk▸d9 hlt (aK i),i+1,m4,U4,X1,rfl,hlt,R₄,Wm,VE⟩
  | brk=>exact hQ _ _ _ _ R₄.dropZ VE
  | ret v=>exact hQ _ _ _ _ R₄.dropZ VE
theorem cQ.lock(O:F.Ok C n)(R:cQ C F Z s m U)(hd:U.get d=some (.dict kvs)):∃o,cQ C F Z s m (U.put d (.ro o (.dict kvs))):=by
 refine aP (R.sg _ _ hd) λ Vg q=>(aP Vg λ Vq V=>?_);clear Vg;obtain ⟨o,ho⟩:=Vq
 exact ⟨o,R.set O R.core hd (λ b o V e=>e) ⟨ho,q⟩⟩
theorem cQ.unlock(O:F.Ok C n)(R:cQ C F Z s m U)(hd:U.get d=some (.ro o v)):cQ C F Z s m (U.put d v):=
 R.set O R.core hd (λ b o V e=>e) (R.sg _ _ hd).2.2
end
end
section
noncomputable def oC(e:Expr)(gens:List ce)(g:ce)(emit:Sem Unit)(depth:Nat)(it Ur:Value)(env:Env):Sem Fin:=do
 fT (if g.is_async !=0 then e.pos else g.iter.pos)
 match<-if g.is_async !=0 then asyncNext it else jf it with
 | none=>eu (.done .next)
 | some v=>
  gU g.target it v
  nj g.target env v
  let mut ok:=true
  for c in g.ifs do
   if ok then ok<-isTrue c env (gb c env)
  if ok then
   match gens[depth+1]? with
   | some g' =>
    let x<-gb g'.iter env
    fT g'.iter.pos
    let x<-if g'.is_async !=0 then RL g'.iter x else da g'.iter env x
    let _<-runOwn (.compStart e (depth+1) (<-fF [x] (if g'.is_async !=0 then asyncIter x else qx x)) Ur env) env
   | none=>emit
  again (.compLoop e depth it Ur env)
noncomputable def rZ(UI:Expr)(Ur:Value)(env:Env):Sem Unit:=do let _<-call (.builtin "list.append") [Ur,<-gb UI env]
noncomputable def wO(k v:Expr)(d:Addr)(env:Env):Sem Unit:=do
 let kv<-gb k env
 let vv<-fF [kv] (gb v env)
 fT {k.pos with endLine:=v.pos.endLine,endCol:=v.pos.endCol}
 fF [kv,vv] (dictSet d kv vv)
theorem yR(h:gens[d]? =some g):
  tq (.ListComp UI gens sc pos) d it Ur env=oC (.ListComp UI gens sc pos) gens g (rZ UI Ur env) d it Ur env:=by
 unfold tq oC
 simp only [h]
 rfl
theorem yS(h:gens[d]? =some g):
  tq (.DictComp k v gens sc pos) d it (.ref D) env=oC (.DictComp k v gens sc pos) gens g (wO k v D env) d it (.ref D) env:=by
 unfold tq oC
 simp only [h]
 rfl
section
variable{C:Cx}{F:dD}{n:Nat}{m:Str->Option Value}{U U' :AH}{Z Y Y' :List (Addr×Obj)}{s s' :aO}
noncomputable def Jv(C:Cx)(F:dD)(n:Nat)(t:Expr)(v:Value)(m:Str->Option Value)(U:AH)(Q:(Str->Option Value)->AH->Prop):Prop:=
 ∀v',er v' =v->F.Ok C n->∀Z s W,cQ C F Z s m U->(∀s m U,cQ C F Z s m U->Q m U->W () s)->br (bR C.prog C.w) F.A (nj t F.env v') W (λ V V=>False) s
theorem gg{Q:(Str->Option Value)->AH->Prop}(S:Stores F x)(h:Q (fA m x v) U):Jv C F n (.Name x p) v m U Q:=λ v' e O Z s W R K=>
 mw (i7 O R S λ s' R' =>K _ _ _ (e▸R') h)
noncomputable def rf(C:Cx)(F:dD)(n:Nat):List Expr->(Str->Option Value)->AH->(Bool->AH->Prop)->Prop
 | [],_,U,Q=>Q true U
 | c::r,m,U,Q=>WT C F n c m U λ b U1=>if b then rf C F n r m U1 Q else Q false U1
noncomputable def pe(ifs:List Expr)(env:Env)(b:Bool):Sem Bool:=RK ifs b λ c r=>if r=true then do let ok<-isTrue c env (gb c env);eu (lG ok) else eu (lG r)
theorem qI(M:Model)(A:eN)(E:Value->aO->Prop)(env:Env){Q:Bool->aO->Prop}:∀(ifs:List Expr) (s:aO),Q false s->br M A (pe ifs env false) Q E s
 | [],s,h=>aD h
 | c::r,s,h=>by
  unfold pe
  refine ah (j2 ..) ?_
  simp only [aV,if_false]
  exact aj (aD (qI M A E env r s h))
theorem rI(O:F.Ok C n):∀(ifs:List Expr) {m:Str->Option Value} {U:AH} {s:aO} {Q:Bool->AH->Prop} {W:Bool->aO->Prop},rf C F n ifs m U Q->cQ C F Z s m U->(∀b s U,cQ C F Z s m U->Q b U->W b s)->
  br (bR C.prog C.w) F.A (pe ifs F.env true) W (λ V V=>False) s
 | [],_,U,s,Q,W,h,R,K=>aD (K _ _ _ R h)
 | c::r,m,U,s,Q,W,h,R,K=>by
  unfold pe
  refine ah (j2 ..) ?_
  simp only [if_true]
  refine aj (aj (h O Z s _ R λ b s₁ U1 R₁ Ut=>?_))
  cases b with
  | true=>exact aD (rI O r Ut R₁ K)
  | false=>exact aD (qI _ _ _ _ r s₁ (K _ _ _ R₁ Ut))
noncomputable def Jx{α:Type}(C:Cx)(F:dD)(n:Nat)(g:ce)(WW:α->(Str->Option Value)->AH->(α->AH->Prop)->Prop)(a:Addr)(ao:ba)(xs:List Value)(y:α)(m:Str->Option Value)(U:AH)(Q:α->AH->Prop):Prop:=
 ∃(J:Nat->α->AH->Prop),J 0 y U/\(∀i y U,J i y U->U.sees a ao)/\
  (∀i v y U,xs[i]? =some v->J i y U->Jv C F n g.target v m U λ m1 U1=>(∀z w,m z=some w->m1 z=some w)/\
   rf C F n g.ifs m1 U1 λ ok Uq=>if ok then WW y m1 Uq (λ y' Ux=>J (i+1) y' Ux) else J (i+1) y Uq)/\∀y U,J xs.length y U->Q y U
noncomputable def CI{α:Type}(C:Cx)(F:dD)(n:Nat)(g:ce)(WW:α->(Str->Option Value)->AH->(α->AH->Prop)->Prop)(x:Value)(y:α)(m:Str->Option Value)(U:AH)(Q:α->AH->Prop):Prop:=
 ∃(a:Addr) (ao:ba) (xs:List Value),x=.ref a/\fy ao=some xs/\Jx C F n g WW a ao xs y m U Q
noncomputable def CG{α:Type}(C:Cx)(F:dD)(n:Nat)(E:α->(Str->Option Value)->AH->(α->AH->Prop)->Prop):List ce->α->(Str->Option Value)->AH->(α->AH->Prop)->Prop
 | [],y,m,U,Q=>E y m U Q
 | g::gs,y,m,U,Q=>(g.is_async=0/\∀env x,da g.iter env x=eu x)/\WE C F n g.iter m U λ x U1=>CI C F n g (CG C F n E gs) x y m U1 Q
theorem pJ{t:String->Option eU}(h:(fK e depth it Ur env).isFrame=false):
  vp t (.compLoop e depth it Ur env)=(tq e depth it Ur env).onRaise (λ x=>do noteFrame x env;theTreesLotGoes x):=by
 unfold vp
 simp only [h,aV,if_false]
theorem og{t:String->Option eU}(h:(gY e depth it Ur env).isFrame=false):
  vp t (.compStart e depth it Ur env)=(compStart e depth it Ur env).onRaise (λ x=>do noteFrame x env;fT theWindowsPlace):=by
 unfold vp
 simp only [h,aV,if_false]
theorem cQ.memZ(R:cQ C F Z s m U)(h:∀p∈Z',p∈Z):cQ C F Z' s m U:=
 ⟨R.core,R.fr,R.inn,R.loc,R.var,R.cel,λ a ha=>let ⟨l,b,c⟩:=R.own a ha;⟨l,b,λ p hp=>c p (h p hp)⟩,λ p hp=>R.zz p (h p hp),R.sg,R.sm⟩
structure iB(e:Expr)(gens:List ce)(emit:Sem Unit)(Ur:Addr)(env:Env):Prop where
 cl:vq e=gens
 turn:∀d g it,gens[d]? =some g->tq e d it (.ref Ur) env=oC e gens g emit d it (.ref Ur) env
 frS:∀d it Ur env,(gY e d it Ur env).isFrame=false/\(gY e d it Ur env).weight=0/\(gY e d it Ur env).cUnits=0
 frL:∀d it Ur env,(fK e d it Ur env).isFrame=false/\(fK e d it Ur env).weight=0/\(fK e d it Ur env).cUnits=0/\(fK e d it Ur env).quiet=true
noncomputable def sJ{α:Type}(C:Cx)(F:dD)(n:Nat)(emit:Sem Unit)(Ur:Addr)(Acc:Obj->α->Prop)(E:α->(Str->Option Value)->AH->(α->AH->Prop)->Prop):Prop:=
 F.Ok C n->∀{y m U Q Z s ob},E y m U Q->cQ C F (Z++[(Ur,ob)]) s m U->(∀p∈Z,p.1≠Ur)->Acc ob y->
  br (bR C.prog C.w) F.A emit (λ V s' =>∃UN y' U',cQ C F (Z++[(Ur,UN)]) s' m U' /\Acc UN y' /\Q y' U') (λ V V=>False) s
noncomputable def iz(e:Expr)(gens:List ce)(emit:Sem Unit)(d:Nat)(Ur:Value)(env:Env)(k:Sem Fin):Sem Fin:=match gens[d+1]? with
 | some g' =>do
  let x<-gb g'.iter env
  fT g'.iter.pos
  let x<-if g'.is_async !=0 then RL g'.iter x else da g'.iter env x
  let _<-runOwn (.compStart e (d+1) (<-fF [x] (if g'.is_async !=0 then asyncIter x else qx x)) Ur env) env
  k
 | none=>do
  emit
  k
noncomputable def rz{α:Type}(C:Cx)(F:dD)(n:Nat)(t:Sem Fin->Sem Fin)(Ur:Addr)(Acc:Obj->α->Prop)(G:α->(Str->Option Value)->AH->(α->AH->Prop)->Prop):Prop:=
 ∀{y:α} {m:Str->Option Value} {U:AH} {Q:α->AH->Prop} {Z:List (Addr×Obj)} {s:aO} {ob:Obj},G y m U Q->cQ C F (Z++[(Ur,ob)]) s m U->(∀p∈Z,p.1≠Ur)->Acc ob y->
  ∀(k:Sem Fin) (R:Fin->aO->Prop),(∀s' UN y' U',cQ C F (Z++[(Ur,UN)]) s' m U' ->Acc UN y' ->Q y' U' ->br (bR C.prog C.w) F.A k R (λ V V=>False) s')->
  br (bR C.prog C.w) F.A (t k) R (λ V V=>False) s
theorem tE(h:g.is_async=0):oC e gens g emit d it Ur env=(do
  fT g.iter.pos
  let r<-jf it
  match r with
  | none=>eu (.done .next)
  | some v=>do
   gU g.target it v
   nj g.target env v
   let ok<-pe g.ifs env true
   if ok=true then iz e gens emit d Ur env (again (.compLoop e d it Ur env)) else again (.compLoop e d it Ur env)):=by
 unfold oC iz
 simp only [h]
 cases gens[d+1]? with
 | none=>rfl
 | some g' =>
  dsimp only
  cases (g'.is_async !=0)<;>rfl
theorem wQ{α:Type}{Acc:Obj->α->Prop}{G:α->(Str->Option Value)->AH->(α->AH->Prop)->Prop}
  (O:F.Ok C n) (W:iB e gens emit Ur F.env) (hg:gens[d]? =some g) (ha:g.is_async=0) (hin:rz C F n (iz e gens emit d (.ref Ur) F.env) Ur Acc G)
 {J:Nat->α->AH->Prop} {y:α} {m:Str->Option Value} {U:AH} {Q:α->AH->Prop} {Z:List (Addr×Obj)} {s:aO} {ob Vm:Obj} {P:Nat->Obj->Prop} {VA :Heap->Prop}
  (hit:qv C I xs VA P) (VN:∀h,At C h a ao->VA h) (XH:P 0 Vm) (hIZ:∀p∈Z,I≠p.1) (hIa:I≠Ur)
  (h0:J 0 y U) (Vz:∀i y U,J i y U->U.sees a ao)
  (Vn:∀i v y U,xs[i]? =some v->J i y U->Jv C F n g.target v m U λ m1 U1=>(∀z w,m z=some w->m1 z=some w)/\
   rf C F n g.ifs m1 U1 λ ok Uq=>if ok then G y m1 Uq (λ y' Ux=>J (i+1) y' Ux) else J (i+1) y Uq) (Vu:∀y U,J xs.length y U->Q y U)
  (R₂:cQ C F ((Z++[(I,Vm)])++[(Ur,ob)]) s m U) (hza:∀p∈Z,p.1≠Ur) (WQ:Acc ob y):
  iZ (bR C.prog C.w) F.A (.compStart e d (.ref I) (.ref Ur) F.env)
   (λ r s' =>∃f,r=.ok f/\∃UN y' U',cQ C F (Z++[(Ur,UN)]) s' m U' /\Acc UN y' /\Q y' U') s:=by
 have hIz:∀(ob:Obj) (V9 :Obj),∀p∈Z++[(Ur,ob)],∀q∈[(I,V9)],q.1≠p.1:=λ ob1 V9 p hp q hq=>by
  refine ah (aq.mp hq) ?_
  rcases az.mp hp with hp | hp
  ·exact hIZ p hp
  ·exact ah (aq.mp hp) hIa
 --both roads of compStart lead to the loop
 have loop:iZ (bR C.prog C.w) F.A (.compLoop e d (.ref I) (.ref Ur) F.env)
   (λ r s' =>∃f,r=.ok f/\∃UN y' U',cQ C F (Z++[(Ur,UN)]) s' m U' /\Acc UN y' /\Q y' U') s:=by
  refine TM (W.frL _ _ _ _).2.2.2 (λ k s' =>∃i y ob Vm U,k=xs.length-i/\i<=xs.length/\cQ C F ((Z++[(I,Vm)])++[(Ur,ob)]) s' m U/\Acc ob y/\P i Vm/\J i y U)
   (λ k s' ⟨i,y',UN,V9,U',hk,WM,R',Wv,hP,hJ⟩=>(ah (iU (W.frL _ _ _ _).2.1 (W.frL _ _ _ _).2.2.1) (ah (show (bR C.prog C.w).den=vp rC from rfl) (ah (pJ (W.frL _ _ _ _).1) (ah (W.turn d g _ hg) (ah (tE ha) (iW (dG (Q:=_) (aj (eR (aj ?_))) (λ V V x=>x) uw)))))))) (xs.length-0) ⟨0,y,ob,Vm,U,rfl,a0 _,R₂,WQ,XH,h0⟩
  have hob:s'.heap.get? I=some V9 :=(R'.zz _ (av _ (ak _ (aN _)))).1
  have hdep' :VA s'.heap:=VN _ (R'.atS (Vz _ _ _ hJ))
  have RY:cQ C F ((Z++[(Ur,UN)])++[(I,V9)]) s' m U' :=R'.memZ λ p hp=>by simp only [az,aq] at hp⊢;rcases hp with (h | h) | h<;>simp [h]
  cases hx:xs[i]? with
  | none=>
   refine hit.fin O.handled hP hob hdep' hx λ h' tk hk' =>?_
   have hil:i=xs.length:=by have:=vD.mp hx;exact a_ WM this
   clear hP WM hk hx;subst hil
   have Va :=RY.stepZ (s' :={s' with heap:=h',toks:=tk}) (Y' :=[]) O R'.core.upd (λ b o h e=>hk' b o (λ q=>h _ (aN _) q.symm) e) (λ p hp=>nomatch hp) (hIz UN V9)
   exact aD ⟨.next,rfl,UN,y',U',Va.dropZ,Wv,Vu _ _ hJ⟩
  | some v=>
   have hlt:=(al.mp hx).1
   refine hit.item hP hob hdep' hx λ v' h' tk V4 ev Wm Xv hk' =>?_
   have Va :=RY.stepZ (s' :={s' with heap:=h',toks:=tk}) (Y' :=[(I,V4)]) O R'.core.upd (λ b o h e=>hk' b o (λ q=>h _ (aN _) q.symm) e)
    (λ p hp=>ah (aq.mp hp) ⟨Xv,.inl ⟨_,aN _,rfl⟩⟩) (hIz UN V9)
   have R3:cQ C F ((Z++[(I,V4)])++[(Ur,UN)]) {s' with heap:=h',toks:=tk} m U' :=Va.memZ λ p hp=>by simp only [az,aq] at hp⊢;rcases hp with (h | h) | h<;>simp [h]
   refine aj (hit.lets (s:={s' with heap:=h',toks:=tk}) Wm Xv (aj (Vn i v y' U' hx hJ v' ev O _ _ _ R3 λ s₄ m4 U4 R₄ UO=>(aP UO λ hm hc=>?_))));clear UO
   refine aj (rI O g.ifs hc R₄ λ ok WD U5 R₅ VD=>?_)
   have hzI:∀p∈Z++[(I,V4)],p.1≠Ur:=λ p hp=>by
    rcases az.mp hp with hp | hp
    ·exact hza p hp
    ·exact ah (aq.mp hp) hIa
   cases ok with
   | true=>
    simp only [if_true] at VD⊢
    exact hin VD R₅ hzI Wv _ _ (λ s6 Zp y6 U6 R₆ Yz ZP=>(aD ⟨rfl,xs.length-(i+1),hk▸d9 hlt (aK i),i+1,y6,Zp,V4,U6,rfl,hlt,R₆.forget hm,Yz,Wm,ZP⟩))
   | false=>
    simp only [aV,if_false] at VD⊢
    exact aD ⟨rfl,xs.length-(i+1),hk▸d9 hlt (aK i),i+1,y',UN,V4,U5,rfl,hlt,R₅.forget hm,Wv,Wm,VD⟩
 refine oY (ah (iU (W.frS _ _ _ _).2.1 (W.frS _ _ _ _).2.2) (ah (show (bR C.prog C.w).den=vp rC from rfl) (ah (og (W.frS _ _ _ _).1) (iW (dG (Q:=_) ?_ (λ V V x=>x) uw)))))
 unfold compStart
 simp only [W.cl,hg,CM,ha]
 have q:=(W.frL d (.ref I) (.ref Ur) F.env).2.2.2
 refine (?_:br _ _ (ask>>=_) _ _ _)
 refine aj (gu (wpAny_ite ?_))
 have R2I:s.heap.get? I=some Vm:=(R₂.zz _ (av _ (ak _ (aN _)))).1
 refine eC (λ V=>?_) λ V=>?_
 ·exact aD ⟨q,loop⟩
 ·refine aj (ki (aj (eR (aj ?_))))
  exact hit.again XH R2I (aD ⟨q,loop⟩)
theorem yP{α:Type}{Acc:Obj->α->Prop}{G:α->(Str->Option Value)->AH->(α->AH->Prop)->Prop}
  (O:F.Ok C n) (W:iB e gens emit Ur F.env) (hg:gens[d]? =some g) (ha:g.is_async=0) (hin:rz C F n (iz e gens emit d (.ref Ur) F.env) Ur Acc G)
  {a:Addr} {y:α} {m:Str->Option Value} {U:AH} {Q:α->AH->Prop} {Z:List (Addr×Obj)} {s:aO} {ob:Obj}
  (h:CI C F n g G (.ref a) y m U Q) (R:cQ C F (Z++[(Ur,ob)]) s m U) (hza:∀p∈Z,p.1≠Ur) (WQ:Acc ob y):
  br (bR C.prog C.w) F.A (qx (.ref a)) (λ it s₂=>iZ (bR C.prog C.w) F.A (.compStart e d it (.ref Ur) F.env)
   (λ r s' =>∃f,r=.ok f/\∃UN y' U',cQ C F (Z++[(Ur,UN)]) s' m U' /\Acc UN y' /\Q y' U') s₂) (λ V V=>False) s:=by
 refine pG h λ a' ao xs e1 hi Uv=>?_;clear h;refine pI Uv λ J h0 Vz Vn Vu=>?_;clear Uv
 cases e1
 have hs0:=Vz 0 y U h0
 refine x_ hi (R.smS hs0) _ _ _ _ (R.atS hs0) λ Vm P VA hf hit VN XH=>?_
 generalize hI:s.heap.objs.size=I at hit⊢
 have hnew:s.heap.get? I=none:=hI▸R.size_none
 have hIz:∀p∈Z++[(Ur,ob)],I≠p.1:=λ p hp e=>by
  have:=(R.zz p hp).1
  replace this:=hnew▸dc e▸this;exact (bH this).elim
 have R₂:cQ C F ((Z++[(I,Vm)])++[(Ur,ob)]) {s with heap:=s.heap.push Vm} m U:=by
  have:=cQ.stepZ (s' :={s with heap:=s.heap.push Vm}) (Z:=Z++[(Ur,ob)]) (Y:=[]) (Y' :=[(I,Vm)]) O R.nilZ ⟨R.core.gens,R.core.os,R.core.dr⟩ (λ b o V e=>bb Vm e)
   (λ p hp=>ah (aq.mp hp) ⟨dt hI (bp _ hf),.inr hnew⟩) (λ p V q hq=>absurd hq (dB))
  exact this.memZ λ p hp=>by simp only [az,aq] at hp⊢;rcases hp with (h | h) | h<;>simp [h]
 exact wQ O W hg ha hin hit VN XH (λ p hp=>hIz p (av _ hp)) (hIz _ (ak _ (aN _))) h0 Vz Vn Vu R₂ hza WQ
theorem wI{α:Type}{emit:Sem Unit}{Ur:Addr}{Acc:Obj->α->Prop}{E:α->(Str->Option Value)->AH->(α->AH->Prop)->Prop}
  (O:F.Ok C n) (W:iB e gens emit Ur F.env) (hE:sJ C F n emit Ur Acc E):∀(gs:List ce) (d:Nat) (g:ce),gens.drop d=g::gs->rz C F n (iz e gens emit d (.ref Ur) F.env) Ur Acc (CG C F n E gs):=by
 intro gs
 induction gs with
 | nil=>
  intro d g hd y m U Q Z s ob h R hz hA k R' hk
  have hn:gens[d+1]? =none:=sV sQ (dt JF (ah hd rfl))
  unfold iz
  exact ah hn (aj (dG (hE O h R hz hA) (λ V s' Uy=>by refine pG Uy λ UN y' U' a b c=>?_;clear Uy;exact hk s' UN y' U' a b c) uw))
 | cons g' gs' ih=>
  intro d g hd y m U Q Z s ob ⟨⟨Ws,hs'⟩,h⟩ R hz hA k R' hk
  have hd' :gens.drop (d+1)=g' ::gs' :=sV JF (ah hd rfl)
  have hn:gens[d+1]? =some g' :=sV sQ (ah hd' rfl)
  unfold iz
  refine ah hn ?_
  simp only [Ws]
  refine aj (h O _ _ _ R λ x s₁ U1 R₁ Ut=>aj (eR (((ah (hs' ..) (aj (aD (aj (cR ?_))))):br _ _ (da g'.iter F.env x>>=_) _ _ _))))
  have hx:∃b,er x=.ref b:=by refine pH Ut λ b V V e V=>?_;clear Ut;exact ⟨b,e⟩
  refine aS hx λ b hb=>?_;clear hx
  replace Ut:=hb▸Ut
  refine lA hb (dG (yP O W hn Ws (ih (d+1) g' hd') Ut R₁ hz hA) (λ it s₂ UL=>?_) uw)
  have h2' :iZ (bR C.prog C.w) (F.A.mark none) (.compStart e (d+1) it (.ref Ur) F.env) (λ r s' =>∃f,r=.ok f/\∃UN y' U',cQ C F (Z++[(Ur,UN)]) s' m U' /\Acc UN y' /\Q y' U') s₂:=UL
  refine aj (wpAny_runOwn (eS h2' (λ r s' q=>?_)))
  obtain ⟨f,rfl,UN,y',U',a,b,c⟩:=q
  exact hk s' UN y' U' a b c
end
end
section
noncomputable def d7(cells:List (Str×Addr)):List (Str×eH)->List (Str×Addr)->List (Str×Addr)
 | [],Ur=>Ur
 | (x,k)::r,Ur=>if k==.free then (match cells.lookup x with
   | some c=>d7 cells r ((x,c)::Ur)
   | none=>d7 cells r Ur) else d7 cells r Ur
theorem lP(cells:List (Str×Addr))(x:Str)(k:eH)(r:List (Str×eH))(Ur:List (Str×Addr)):d7 cells ((x,k)::r) Ur=if k==.free then (match cells.lookup x with
   | some c=>d7 cells r ((x,c)::Ur)
   | none=>d7 cells r Ur) else d7 cells r Ur:=rfl
theorem oh(h:∀x∈scope.names,x.2=.free->∃c,env.cells.lookup x.1=some c):closureFor scope env=eu (d7 env.cells scope.names []):=by
 unfold closureFor
 have key:∀(l:List (Str×eH)) (Ur:List (Str×Addr)),(∀x∈l,x.2=.free->∃c,env.cells.lookup x.1=some c)->
   (RK l Ur λ x cs=>if (x.2==fz)=true then do let c<-cellOf env x.1;eu (lG ((x.1,c)::cs)) else eu (lG cs))=(eu (d7 env.cells l Ur):Sem _):=by
  intro l
  induction l with
  | nil=>intro Ur _;rfl
  | cons x r ih=>
   intro Ur h
   obtain ⟨n,k⟩:=x
   refine ae (j2 ..) (ah (lP ..) ?_)
   by_cases hk:(k==fz)=true
   ·have hk' :k=.free:=by simpa using hk
    refine aS (h _ (.head _) hk') λ c hc=>?_
    simp only at hc
    simp only [hk,if_true,hc]
    unfold cellOf
    exact ah hc (ih _ λ x hx=>h x (.tail _ hx))
   ·simp only [hk,if_false,aV]
    exact ih _ λ x hx=>h x (.tail _ hx)
 change (RK scope.names [] _>>=λ cs=>eu cs)=_
 have:=key scope.names [] h
 exact (congrArg (· >>=λ cs=>eu cs) this)
theorem jp:∀(l:List (Str×eH)) (Ur:List (Str×Addr)),(∀x∈l,x.2=.free->cells.lookup x.1=cells'.lookup x.1)->d7 cells l Ur=d7 cells' l Ur
 | [],Ur,h=>rfl
 | (x,k)::r,Ur,h=>by
  rewrite [lP,lP]
  split at⊢
  ·rename_i hk
   have hk' :k=.free:=by simpa using hk
   have e:=h (x,k) (.head _) hk'
   simp only at e
   rewrite [e]
   cases cells'.lookup x with
   | none=>exact jp r _ λ x hx=>h x (.tail _ hx)
   | some c=>exact jp r _ λ x hx=>h x (.tail _ hx)
  ·exact jp r _ λ x hx=>h x (.tail _ hx)
set_option tactic.hygienic true in
theorem j9:∀(l:List (Str×eH)) (Ur:List (Str×Addr)),(∀p∈Ur,cells.lookup p.1=some p.2)->∀p∈d7 cells l Ur,cells.lookup p.1=some p.2
 | [],Ur,h=>h
 | (x,k)::r,Ur,h=>by
  refine ah (lP ..) (eC (λ V=>?_) λ V=>?_)
  ·split at⊢
   ·rename_i c hc
    exact j9 r _ λ p hp=>by
     rcases aM.mp hp with rfl | hp
     ·exact hc
     ·exact h p hp
   ·exact j9 r Ur h
  ·exact j9 r Ur h
theorem j_:∀(l:List (Str×eH)) (Ur:List (Str×Addr)),(∀p∈Ur,p.1∉l.map (·.1))->(Ur.map (·.1)).Nodup->(l.map (·.1)).Nodup->((d7 cells l Ur).map (·.1)).Nodup
 | [],Ur,_,h,_=>h
 | (x,k)::r,Ur,h,ha,hl=>by
  simp only [aU,aY] at hl
  have h' :∀p∈Ur,p.1∉r.map (·.1):=λ p hp q=>h p hp (gX _ q)
  refine ah (lP ..) (eC (λ V=>?_) λ V=>?_)
  ·split at⊢
   ·refine j_ r _ (λ p hp=>?_) ?_ hl.2
    ·rcases aM.mp hp with rfl | hp
     ·exact hl.1
     ·exact h' p hp
    ·exact ah aU (gk aY (⟨λ q=>(aH (aF.mp q) λ p hp e=>(h p hp (ah e (.head _)))),ha⟩))
   ·exact j_ r Ur h' ha hl.2
  ·exact j_ r Ur h' ha hl.2
set_option tactic.hygienic true in
theorem nI:∀(l:List (Str×eH)) (Ur:List (Str×Addr)) (x:Str) (c:Addr),(x,fz)∈l\/(x,c)∈Ur->cells.lookup x=some c->(x,c)∈d7 cells l Ur
 | [],Ur,x,c,h,_=>h.elim (λ h=>nomatch h) id
 | (y,k)::r,Ur,x,c,h,hc=>by
  refine ah (lP ..) (eC (λ hk=>?_) λ hk=>?_)
  ·split at⊢
   ·rename_i c' Vp
    refine nI r _ x c ?_ hc
    (try clear hk);rcases h with h | h
    ·(try clear hk);rcases aM.mp h with e | h
     ·clear h;cases e
      replace Vp :=hc▸Vp;(try clear hc);have Uv:=sI Vp;clear Vp;subst Uv
      exact .inr (.head _)
     ·exact .inl h
    ·exact .inr (.tail _ h)
   ·rename_i Vp
    refine nI r Ur x c ?_ hc
    (try clear hk);rcases h with h | h
    ·(try clear hk);rcases aM.mp h with e | h
     ·clear h;cases e;replace Vp :=hc▸Vp;exact (hV Vp).elim
     ·exact .inl h
    ·exact .inr h
  ·refine nI r Ur x c ?_ hc
   (try clear hc);rcases h with h | h
   ·(try clear hc);rcases aM.mp h with e | h
    ·clear h;cases e;exact absurd rfl hk
    ·exact .inl h
   ·exact .inr h
theorem sZ{l:List (Str×Addr)}(h:(l.map (·.1)).Nodup)(hm:(x,c)∈l):l.lookup x=some c:=by
 induction l with
 | nil=>cases hm
 | cons p r ih=>
  obtain ⟨y,d⟩:=p
  simp only [aU,aY] at h
  rcases aM.mp hm with e | hm
  ·clear h hm;cases e;simp
  ·have:x≠y:=λ e=>h.1 (e▸bo hm)
   refine ae bv ?_
   have hb:(x==y)=false:=by simpa using this
   exact ah hb (ih h.2 hm)
theorem lq:∀(l:List (Str×eH)) (Ur:List (Str×Addr)),∀p∈d7 cells l Ur,(p.1,fz)∈l\/p∈Ur
 | [],Ur,p,h=> .inr h
 | (x,k)::r,Ur,p,h=>by
  replace h:=(lP ..)▸h
  split at h
  ·rename_i hk
   have hk' :k=.free:=by simpa using hk
   split at h
   ·rcases lq r _ p h with q | q
    ·exact .inl (.tail _ q)
    ·(try clear h);rcases aM.mp q with e | q
     ·clear q;subst e;exact .inl (ah hk' (.head _))
     ·exact .inr q
   ·exact (lq r _ p h).imp (.tail _) id
  ·exact (lq r _ p h).imp (.tail _) id
theorem ja:∀(l:List (Str×eH)) (n:Nat) (Ur:List (Str×Addr)) (x:Str),(∀k,(x,k)∈l->k≠ .cell)->(dz n l Ur).lookup x=Ur.lookup x
 | [],_,_,_,_=>rfl
 | (y,k)::r,n,Ur,x,h=>by
  unfold dz
  refine eC (λ hk=>?_) λ V=>?_
  ·refine ah (ja r _ _ x λ k hk=>h k (.tail _ hk)) ?_
   have hk' :k=.cell:=by simpa using hk
   have:x≠y:=λ e=>h k (ah e (.head _)) hk'
   refine ae bv ?_
   have hb:(x==y)=false:=by simpa using this
   exact ah hb rfl
  ·exact ja r _ _ x λ k hk=>h k (.tail _ hk)
theorem kW:∀(l:List (Str×eH)) (n:Nat) (Ur:List (Str×Addr)) (p:Str×Addr),p∈dz n l Ur->p∈Ur\/(n<=p.2/\(p.1,gj)∈l)
 | [],_,_,_,h=> .inl h
 | (y,k)::r,n,Ur,p,h=>by
  unfold dz at h
  split at h
  ·rename_i hk
   have hk' :k=.cell:=by simpa using hk
   rcases kW r _ _ p h with h | ⟨h1,h2⟩
   ·rcases aM.mp h with e | h
    ·(try clear h);subst e;exact .inr ⟨aw _,ah hk' (.head _)⟩
    ·exact .inl h
   ·exact .inr ⟨ri h1,.tail _ h2⟩
  ·rcases kW r _ _ p h with h | ⟨h1,h2⟩
   ·exact .inl h
   ·exact .inr ⟨h1,.tail _ h2⟩
theorem ka:∀(l:List (Str×eH)) (n:Nat) (Ur:List (Str×Addr)),(∀x∈Ur,x.2<n)->Ur.Pairwise (λ x y=>x.2≠y.2)->(dz n l Ur).Pairwise (λ x y=>x.2≠y.2)
 | [],_,_,_,h=>h
 | (nm,k)::r,n,Ur,h1,h2=>by
  unfold dz
  refine eC (λ V=>?_) λ V=>?_
  ·refine ka r (n+1) _ (λ x hx=>?_) (fh.mpr ⟨λ x hx=>?_,h2⟩)
   ·rcases aM.mp hx with rfl | hx
    ·exact aK _
    ·exact jg (h1 x hx)
   ·exact ik (bP (h1 x hx))
  ·exact ka r n Ur h1 h2
theorem j4:∀(l:List (Str×eH)) (h:Heap) (Ur:List (Str×Addr)),∀p∈dz h.objs.size l Ur,p∈Ur\/(h.objs.size<=p.2/\(km h l).IsCell p.2 none)
 | [],h,Ur,p,hp=> .inl hp
 | (y,k)::r,h,Ur,p,hp=>by
  unfold dz at hp
  unfold km
  split at hp
  ·rename_i hk
   refine ah (if_pos hk) ?_
   have:=j4 r (h.push {cls:=.type "cell",data:=.cell none}) ((y,h.objs.size)::Ur) p (ah (fi ..) hp)
   (try clear hp);rcases this with q | ⟨q1,q2⟩
   ·(try clear hp);rcases aM.mp q with e | q
    ·clear q;subst e
     exact .inr ⟨aw _,_,xq _ _ _ _ (bp _ rfl),rfl⟩
    ·exact .inl q
   ·replace q1:=(fi ..)▸q1
    exact .inr ⟨ri q1,q2⟩
  ·rename_i hk
   exact ah (if_neg hk) (j4 r h Ur p hp)
section
variable{C:Cx}{F:dD}{n:Nat}{m:Str->Option Value}{U U' :AH}{Z Y Y' :List (Addr×Obj)}{s s' :aO}
noncomputable abbrev Fc(F:dD)(sc:Scope)(L2:Addr)(mL:Str->Option Value):dD:=
 {F with env:=compEnvC sc (dz (L2+1) sc.names (d7 F.cells sc.names [])) L2 F.env,oL:=some mL,cells:=dz (L2+1) sc.names (d7 F.cells sc.names [])}
noncomputable def jz(sc:Scope)(m:Str->Option Value):Str->Option Value:=λ x=>if sc.names.lookup x=some .free then m x else none
structure pV(F:dD)(sc:Scope):Prop where
 kind:sc.kind=.function
 nodup:(sc.names.map (·.1)).Nodup
 free:∀x∈sc.names,x.2=.free->(F.env.kindOf x.1=some .cell\/F.env.kindOf x.1=some .free)/\x.1≠ "__class__"
 cls:∀x∈sc.names,x.1≠ "__class__"
theorem iq{l:List (Str×eH)}(h:(l.map (·.1)).Nodup):l.lookup x=some k↔(x,k)∈l:=by
 constructor
 ·exact mem_of_lookup
 ·intro hm
  induction l with
  | nil=>cases hm
  | cons p r ih=>
   obtain ⟨y,d⟩:=p
   simp only [aU,aY] at h
   rcases aM.mp hm with e | hm
   ·clear h hm;cases e;simp
   ·have:x≠y:=λ e=>h.1 (e▸bo hm)
    refine ae bv ?_
    have hb:(x==y)=false:=by simpa using this
    exact ah hb (ih h.2 hm)
theorem iK(sc:Scope)(env:Env)(hk:env.scope.kind=.function)(x:Str):(tm sc env).names.lookup x=(sc.names.lookup x).map λ k=>if (k==.free&&env.kindOf x==some .cell)=true then .cell else k:=by
 unfold tm
 simp only [hk]
 induction sc.names with
 | nil=>rfl
 | cons p r ih=>
  obtain ⟨y,k⟩:=p
  refine ah aU (?_:O4 x ((if (k==fz&&jQ==jQ&&env.kindOf y==some gj)=true then (y,gj) else (y,k))::_)=_)
  have ee:(k==fz&&jQ==jQ&&env.kindOf y==some gj)=(k==fz&&env.kindOf y==some gj):=by simp
  refine ah ee ?_
  by_cases hc:(k==fz&&env.kindOf y==some gj)=true
  ·refine ah (if_pos hc) (ae bv (ah bv ?_))
   by_cases e:x=y
   ·(try clear ee);subst e
    simp only [beq_self_eq_true,d8]
    exact ah (if_pos hc) rfl
   ·have hb:(x==y)=false:=by simpa using e
    exact ah hb ih
  ·refine ah (if_neg hc) (ae bv (ah bv ?_))
   by_cases e:x=y
   ·(try clear ee);subst e
    simp only [beq_self_eq_true,d8]
    exact ah (if_neg hc) rfl
   ·have hb:(x==y)=false:=by simpa using e
    exact ah hb ih
section
variable{sc:Scope}
theorem pK(O:F.Ok C n)(S:pV F sc){x:Str}(hx:sc.names.lookup x=some .free):∃c,F.cells.lookup x=some c/\(d7 F.cells sc.names []).lookup x=some c:=by
 have hm:=(iq S.nodup).mp hx
 exact aP (S.free _ hm rfl) λ hk hc=>(aS (O.cok x hk hc) λ c hc=>(bY c hc (sZ (j_ sc.names [] (by intro _ h;cases h) eJ S.nodup) (nI _ _ _ _ (.inl hm) hc))))
theorem nM(O:F.Ok C n)(S:pV F sc){x:Str}(hx:sc.names.lookup x=some .free)(k:Nat):(dz k sc.names (d7 F.cells sc.names [])).lookup x=(d7 F.cells sc.names []).lookup x:=by
 refine ja _ _ _ _ λ k' hk' e=>?_
 have:=(iq S.nodup).mpr hk'
 replace this:=e▸hx▸this;have Uy:=sI this;clear this;cases Uy
theorem EO(O:F.Ok C n)(S:pV F sc):(d7 F.cells sc.names []).Pairwise λ x y=>x.2≠y.2:=by
 have hk:=j_ (cells:=F.cells) sc.names [] (by intro _ h;cases h) eJ S.nodup
 have hl:=j9 (cells:=F.cells) sc.names [] (λ V h=>nomatch h)
 revert hk hl
 generalize d7 F.cells sc.names []=l
 intro hk hl
 induction l with
 | nil=>exact .nil
 | cons p r ih=>
  simp only [aU,aY] at hk
  refine fh.mpr ⟨λ q hq e=>?_,ih hk.2 λ p hp=>hl p (.tail _ hp)⟩
  have h1:=hl p (.head _)
  have h2:=hl q (.tail _ hq)
  have:=F8 O.capart (mem_of_lookup h1) (e▸mem_of_lookup h2)
  exact hk.1 (this▸bo hq)
theorem cQ.block(O:F.Ok C n)(S:pV F sc)(R:cQ C F Z s m U):∃mL Zx,(Fc F sc s.heap.objs.size mL).Ok C n/\(∀p∈Zx,p.1∈F.ownA)/\
  cQ C (Fc F sc s.heap.objs.size mL) (Z++Zx) {s with heap:=km (s.heap.push {cls:=.type "dict",data:=.dict #[]}) sc.names} (jz sc m) U/\
  (∀s' Z' ZW U',cQ C (Fc F sc s.heap.objs.size mL) Z' s' (jz sc m) U' ->(∀p∈Zx,p∈Z')->(∀p∈ZW,(p∈Z' \/(p.1=s.heap.objs.size/\s'.heap.get? p.1=some p.2))/\∀a∈F.ownA,p.1≠a)->cQ C F ZW s' m U'):=by
 refine aS R.fr λ mL FR=>?_
 have keep:∀b o,s.heap.get? b=some o->(km (s.heap.push {cls:=.type "dict",data:=.dict #[]}) sc.names).get? b=some o:=λ b o e=>xq _ _ _ _ (bb _ e)
 have live:∀a,th F s.heap a->a<s.heap.objs.size:=λ a UB=>by refine aP UB λ Vs V=>?_;clear UB;obtain ⟨o,h⟩:=Vs;exact bT h
 have V5:=j9 (cells:=F.cells) sc.names [] (λ V h=>nomatch h)
 have closOwn:∀p∈d7 F.cells sc.names [],p.2∈F.ownA:=λ p hp=>by simp [dD.ownA];exact .inl ⟨_,mem_of_lookup (V5 p hp)⟩
 have closLt:∀p∈d7 F.cells sc.names [],p.2<s.heap.objs.size:=λ p hp=>live _ (R.own _ (closOwn p hp)).1
 let Zx:=iN s.heap (F.ownA.filter λ a=> !((d7 F.cells sc.names []).map (·.2)).contains a)
 have memZx:∀{p},p∈Zx↔(p.1∈F.ownA/\(∀q∈d7 F.cells sc.names [],q.2≠p.1))/\s.heap.get? p.1=some p.2:=λ{p}=>by
  refine gk bX (gk bx ?_)
  simp only [dh,List.contains_eq_mem,decide_eq_false_iff_not,aF,not_exists,not_and]
 have offL:s.heap.objs.size≠F.L:=λ e=>aS R.L_live λ o h=>(absurd (bT h) (ah e (cC _)))
 have blk:=j4 sc.names (s.heap.push {cls:=.type "dict",data:=.dict #[]}) (d7 F.cells sc.names [])
 replace blk:=(fi ..)▸blk
 have O' :(Fc F sc s.heap.objs.size mL).Ok C n:=by
  refine ⟨O.B,O.hA,O.hf,O.hk,O.G,S.kind,O.eg,O.eb,(λ h=>nomatch h),λ V=>offL,O.handled,?_,?_,λ V V h=>h,?_,O.depth,O.units⟩
  ·exact ka _ _ _ (λ x hx=>jg (closLt x hx)) (EO O S)
  ·intro x hx
   rcases kW _ _ _ _ hx with h | ⟨h,_⟩
   ·exact bP (closLt x h)
   ·exact cj h
  ·intro x hx hc
   have hx' :∃k,sc.names.lookup x=some k/\(k=.cell\/k=.free):=by
    have e:=iK sc F.env O.ek x
    change (tm sc F.env).names.lookup x=_\/(tm sc F.env).names.lookup x=_ at hx
    replace hx:=e▸hx
    cases q:sc.names.lookup x with
    | none=>replace hx:=q▸hx;rcases hx with h | h<;>exact (bH h).elim
    | some k=>
     refine bY k rfl ?_
     replace hx:=q▸hx
     simp only [d8,jZ] at hx
     by_cases hc:(k==fz&&F.env.kindOf x==some gj)=true
     ·simp only [dL,beq_iff_eq] at hc;exact .inr hc.1
     ·replace hx:=if_neg hc▸hx;exact hx
   obtain ⟨k,hk,rfl | rfl⟩:=hx'
   ·exact cz.mp (gv _ _ _ (.inl hk))
   ·exact aH (pK O S hk) λ c V h=>⟨c,by refine (?_:(dz _ _ _).lookup x=_);rewrite [nM O S hk];exact ae h rfl⟩
 have newdict:(km (s.heap.push {cls:=.type "dict",data:=.dict #[]}) sc.names).Ns s.heap.objs.size (λ V=>none):=en (Heap.Ns.new s.heap (.type "dict")) λ o e=>xq _ _ _ _ e
 have Y8:=R.size_none
 have fresh:∀a,s.heap.objs.size<=a->F.h₀.get? a=none/\U.get a=none/\a≠F.L/\(∀p∈Z,p.1≠a)/\(∀b∈F.ownA,b≠a):=λ a ha=>by
  refine pF ?_ ?_ ?_ ?_ ?_
  ·cases q:F.h₀.get? a with
   | none=>rfl
   | some o=>exact absurd (bT (R.keep _ _ q)) (eG.mpr ha)
  ·cases q:U.get a with
   | none=>rfl
   | some o=>exact absurd (live _ (R.sg _ _ q).1) (eG.mpr ha)
  ·rintro rfl;exact aS R.L_live λ o h=>(absurd (bT h) (eG.mpr ha))
  ·intro p hp e;exact absurd (bT (R.zz p hp).1) (ah e (eG.mpr ha))
  ·intro b hb e;exact absurd (live _ (R.own b hb).1) (ah e (eG.mpr ha))
 have ownC:∀a∈(Fc F sc s.heap.objs.size mL).ownA,(∃p∈d7 F.cells sc.names [],p.2=a)\/(s.heap.objs.size<=a/\∃o,(km (s.heap.push {cls:=.type "dict",data:=.dict #[]}) sc.names).get? a=some o):=by
  intro a ha
  simp only [dD.ownA,iC,if_true,az,aF,aq] at ha
  rcases ha with ⟨p,hp,rfl⟩ | rfl
  ·rcases blk p hp with h | ⟨h1,⟨o,h2,_⟩⟩
   ·exact .inl ⟨p,h,rfl⟩
   ·exact .inr ⟨ri h1,o,h2⟩
  ·refine pH newdict λ o V V h V=>?_;clear newdict
   exact .inr ⟨aw _,o,h⟩
 refine pE mL Zx O' (λ p hp=>(memZx.mp hp).1.1) ?_ ?_
 ·refine ⟨R.core.upd (tk:=s.toks),⟨mL,FR.keeps keep⟩,λ ml e=>by clear O' ownC;have UC:=sI e;clear e;subst UC;exact FR.ns.keeps keep,⟨_,newdict⟩,?_,?_,?_,?_,?_,R.sm⟩
  ·intro x v hx
   unfold jz at hx
   split at hx
   ·rename_i hf
    obtain ⟨a,a',cv,e,q⟩:=R.var x v hx
    refine aP (S.free _ ((iq S.nodup).mp hf) rfl) λ hk hcl=>?_
    simp only at hk
    refine ⟨a,a',cv,e,.inr ?_⟩
    rcases q with ⟨k,_⟩ | ⟨k,c,hc,hv⟩
    ·replace hk:=k▸hk;rcases hk with h | h<;>(have UF:=sI h;clear h;cases UF)
    ·refine ⟨?_,c,?_,dk hv λ o e=>keep _ _ e⟩
     ·refine ((ah (iK sc F.env O.ek x) (ah hf ?_)):(tm sc F.env).names.lookup x=_\/(tm sc F.env).names.lookup x=_)
      rcases k with k | k
      ·left;simp [k]
      ·right;simp [k]
     ·refine (?_:(dz _ _ _).lookup x=_)
      rewrite [nM O S hf]
      (try clear hv);refine aH (pK O S hf) λ c' h1 h2=>?_
      replace h1:=hc▸h1;clear hc;have UP:=sI h1;clear h1;subst UP;exact h2
   ·exact (bH hx).elim
  ·intro p hp
   rcases blk p hp with h | ⟨_,h⟩
   ·exact aS (R.cel _ (mem_of_lookup (V5 p h))) λ cv h=>⟨cv,dk h λ o e=>keep _ _ e⟩
   ·exact ⟨_,h⟩
  ·intro a ha
   rcases ownC a ha with ⟨p,hp,rfl⟩ | ⟨h,ho⟩
   ·refine ck (R.own _ (closOwn p hp)) λ UQ b c=>(ck UQ λ Vr l2 l3=>?_);clear UQ;obtain ⟨o,l1⟩:=Vr
    refine dn ⟨⟨o,keep _ _ l1⟩,l2,l3⟩ b (λ q hq=>?_)
    rcases az.mp hq with hq | hq
    ·exact c q hq
    ·exact λ e=>(memZx.mp hq).1.2 p hp e.symm
   ·refine t9 (fresh a h) λ f1 f2 f3 f4 f5=>(dn ⟨ho,f3,f1⟩ f2 (λ q hq=>?_))
    rcases az.mp hq with hq | hq
    ·exact f4 q hq
    ·exact f5 _ (memZx.mp hq).1.1
  ·intro p hp
   rcases az.mp hp with hp | hp
   ·exact fE (R.zz p hp) λ a b c d=>(ge (keep _ _ a) b c d)
   ·refine aP (memZx.mp hp) λ UT h2=>(aP UT λ h1 V=>?_);clear UT
    refine ck (R.own _ h1) λ U9 b V=>(ck U9 λ V l2 l3=>?_);clear U9
    exact ge (keep _ _ h2) l2 l3 b
  ·intro a o e
   refine aP (R.sg a o e) λ UM q=>(ck UM λ Vq l2 l3=>?_);clear UM;obtain ⟨ob,h⟩:=Vq
   exact ⟨⟨⟨ob,keep _ _ h⟩,l2,l3⟩,q.keep λ o e=>keep _ _ e⟩
 ·intro s' Z' ZW U' R' hx hZ
  refine aS R'.fr λ Za FR' =>?_
  have nsL:s'.heap.Ns F.L mL:=R'.inn mL rfl
  have ownKeep:∀a∈F.ownA,(∀q∈d7 F.cells sc.names [],q.2≠a)->∀o,s.heap.get? a=some o->s'.heap.get? a=some o:=λ a ha hn o e=>
   (R'.zz (a,o) (hx _ (memZx.mpr ⟨⟨ha,hn⟩,e⟩))).1
  have locOff:F.oL.isSome=true->∀q∈d7 F.cells sc.names [],q.2≠F.env.locals:=λ h q hq=>O.cloc _ (mem_of_lookup (V5 q hq))
  have locKeep:∀ml,s.heap.Ns F.env.locals ml->s'.heap.Ns F.env.locals ml:=λ ml h=>by
   cases hl:F.oL with
   | none=>
    have e:=O.el hl
    rw [e] at h⊢
    exact ah (gH h FR.ns) nsL
   | some o=>exact en h λ ob e=>ownKeep _ (by simp [dD.ownA,hl]) (locOff (ah hl rfl)) ob e
  have capOwn:∀p∈d7 F.cells sc.names [],p.2∈(Fc F sc s.heap.objs.size mL).ownA:=λ p hp=>by
   have hf:sc.names.lookup p.1=some .free:=by
    rcases lq _ _ p hp with h | h
    ·exact (iq S.nodup).mpr h
    ·cases h
   refine aH (pK O S hf) λ c h1 h2=>?_
   have:c=p.2:=by replace h1:=V5 p hp▸h1;exact (bq h1).symm
   (try clear h1);subst this
   have:=mem_of_lookup ((nM O S hf (s.heap.objs.size+1)).trans h2)
   simp only [dD.ownA,az,aF]
   exact .inl ⟨_,this,rfl⟩
  refine ⟨R'.core,⟨mL,nsL,FR'.keep,FR'.above⟩,λ ml e=>?_,?_,λ x v hv=>?_,λ x hx' =>?_,λ a ha=>?_,λ p hp=>?_,R'.sg,R'.sm⟩
  ·exact ah (gH (R.inn ml e) FR.ns) nsL
  ·exact aS R.loc λ ml h=>⟨ml,locKeep ml h⟩
  ·obtain ⟨a,a',cv,e,q⟩:=R.var x v hv
   rcases q with ⟨k,ml,hm,hv'⟩ | ⟨k,c,hc,hv'⟩
   ·exact ⟨a,a',cv,e,.inl ⟨k,ml,locKeep ml hm,hv'⟩⟩
   ·by_cases hcap:∃q∈d7 F.cells sc.names [],q.2=c
    ·(try clear hv');refine aH hcap λ q hq UW=>?_;clear hcap;subst UW
     have hqx:q.1=x:=F8 O.capart (mem_of_lookup (V5 q hq)) (mem_of_lookup hc)
     have hf:sc.names.lookup x=some .free:=by
      rcases lq _ _ q hq with h | h
      ·replace h:=hqx▸h;exact (iq S.nodup).mpr h
      ·cases h
     have hcm:jz sc m x=some v:=by unfold jz;exact ae (if_pos hf) hv
     obtain ⟨_,_,Xq,e',q'⟩:=R'.var x v hcm
     rcases q' with ⟨k',_⟩ | ⟨_,c',Vp,Z_⟩
     ·exfalso
      change (tm sc F.env).names.lookup x=_ at k'
      replace k' :=hf▸iK sc F.env O.ek x▸k'
      simp only [d8] at k'
      split at k' <;>(have UV:=sI k';clear k';cases UV)
     ·change (dz _ _ _).lookup x=_ at Vp
      rewrite [nM O S hf] at Vp
      refine aH (pK O S hf) λ c'' h1 h2=>?_
      replace h1:=hc▸h1;have U8:=sI h1;clear h1;subst U8
      replace Vp :=h2▸Vp;have U7:=sI Vp;clear Vp;subst U7
      exact ⟨a,a',Xq,e',.inr ⟨k,q.2,hc,Z_⟩⟩
    ·exact ⟨a,a',cv,e,.inr ⟨k,c,hc,dk hv' λ o e=>ownKeep _ (by simp [dD.ownA];exact .inl ⟨_,mem_of_lookup hc⟩) (λ q hq e=>hcap ⟨q,hq,e⟩) o e⟩⟩
  ·by_cases hcap:∃q∈d7 F.cells sc.names [],q.2=x.2
   ·refine aH hcap λ q hq e=>?_;clear hcap
    have:=capOwn q hq
    replace this:=e▸this
    have hcells:∃p∈(Fc F sc s.heap.objs.size mL).cells,p.2=x.2:=by
     simp only [dD.ownA,iC,if_true,az,aF,aq] at this
     rcases this with ⟨p,hp,e'⟩ | e'
     ·exact bY p hp e'
     ·exfalso
      have:=closLt q hq
      replace this:=e' ▸e▸this
      exact absurd this (cC _)
    refine aH hcells λ p hp e' =>?_;clear hcells
    exact aS (R'.cel p hp) λ cv h=>⟨cv,e' ▸h⟩
   ·exact aS (R.cel x hx') λ cv h=>⟨cv,dk h λ o e=>ownKeep _ (by simp [dD.ownA];exact .inl ⟨_,hx'⟩) (λ q hq e=>hcap ⟨q,hq,e⟩) o e⟩
  ·refine ck (R.own a ha) λ Ve b c=>(ck Ve λ VL l2 l3=>?_);clear Ve;obtain ⟨o,l1⟩:=VL
   by_cases hcap:∃q∈d7 F.cells sc.names [],q.2=a
   ·clear b c l1 l2 l3;refine aH hcap λ q hq Vk=>?_;clear hcap;subst Vk
    exact ck (R'.own _ (capOwn q hq)) λ l b' V=>(dn l b' (λ p hp=>(hZ p hp).2 _ ha))
   ·have hk:=ownKeep a ha (λ q hq e=>hcap ⟨q,hq,e⟩) o l1
    exact dn ⟨⟨o,hk⟩,l2,l3⟩ ((R'.zz (a,o) (hx _ (memZx.mpr ⟨⟨ha,λ q hq e=>hcap ⟨q,hq,e⟩⟩,l1⟩))).2.2.2) (λ p hp=>(hZ p hp).2 _ ha)
  ·rcases (hZ p hp).1 with h | ⟨e,h⟩
   ·exact R'.zz p h
   ·refine ck (R'.own p.1 (by simp only [dD.ownA,iC,if_true,az,aq];exact .inr e)) λ Vg b V=>(ck Vg λ V l2 l3=>?_);clear Vg
    exact ge h l2 l3 b
end
end
end
section
section
variable{C:Cx}{F:dD}{n:Nat}{m:Str->Option Value}{U U' :AH}{Z Y Y' :List (Addr×Obj)}{s s' :aO}{sc:Scope}
theorem pk{E:Value->aO->Prop}{Q:Env->aO->Prop}
  (h:Q {scope:=sc,locals:=s.heap.objs.size,globals:=env.globals,cells:=dz (s.heap.objs.size+1) sc.names cl,qual:=qual,func:=none,code:=env.code,frame:=env.frame,builtins:=env.builtins}
   {s with heap:=km (s.heap.push {cls:=.type "dict",data:=.dict #[]}) sc.names}):
  br M A (RH sc env.globals cl [] qual none .none (some env) b) Q E s:=by
 simp only [RH,iC,if_true]
 exact aj (T7 (aj (wpAny_layCells _ (λ name kind cells=>by cases ZE:kind==gj<;>simp [ZE]) _ _ _ _ (ah (show ({s with heap:=s.heap.push {cls:=.type "dict",data:=.dict #[]}}:aO).heap.objs.size=s.heap.objs.size+1 from fi ..) (aj (aD (aD h)))))))
theorem cQ.adopt(O:F.Ok C n)(R:cQ C F (Z++[(a,ob)]) s m U)(hz:∀p∈Z,p.1≠a)(h3:3<a)(hA:At C s.heap a ao):cQ C F Z s m (U.put a ao):=by
 refine fE (R.zz (a,ob) (ak _ (aN _))) λ z1 z2 z3 z4=>⟨R.core,R.fr,R.inn,R.loc,R.var,R.cel,λ b hb=>?_,λ p hp=>?_,λ b o e=>?_,λ b o e=>?_⟩
 ·exact ck (R.own b hb) λ l x y=>(dn l (ae (AH.get_put_ne (ik (y (a,ob) (ak _ (aN _))))) x) (λ p hp=>y p (av _ hp)))
 ·exact fE (R.zz p (av _ hp)) λ x y z w=>(ge x y z (ae (AH.get_put_ne (hz p hp)) w))
 ·replace e:=(AH.get_put ..)▸e
  split at e
  ·rename_i q;clear R h3 hz z4;subst q;have Uv:=sI e;clear e;subst Uv
   exact ⟨⟨⟨_,z1⟩,z2,z3⟩,hA⟩
  ·exact R.sg b o e
 ·replace e:=(AH.get_put ..)▸e
  split at e
  ·rename_i q;exact ah q h3
  ·exact R.sm b o e
theorem qn{α:Type}{y0:α}{Acc:Obj->α->Prop}{aoOf:α->ba}
  {emit:Addr->Env->Sem Unit} {E:dD->α->(Str->Option Value)->AH->(α->AH->Prop)->Prop} {XQ:Option (Value->Sem Unit)} {QQ:Value->aO->Prop} {Q' :α->AH->Prop} {P:Value->AH->Prop}
  (O:F.Ok C n) (R:cQ C F Z s m U) (S:pV F sc) (hcl:vq e=gens) (Xa:gens=g::gs) (ZH:g.is_async=0) (hs:∀x,da g.iter F.env x=eu x)
  (W:∀Ur env,iB e gens (emit Ur env) Ur env) (hE:∀F' Ur,sJ C F' n (emit Ur F'.env) Ur Acc (E F'))
  (hnew:∀{s:aO} {Q:Value->aO->Prop},Q (.ref s.heap.objs.size) {s with heap:=s.heap.push ob0}->br (bR C.prog C.w) F.A VR Q (λ V V=>False) s) (hf0:ob0.isFreed=false) (h0:Acc ob0 y0)
  (ZR:∀h a ob y,h.get? a=some ob->Acc ob y->At C h a (aoOf y))
  (h:WE C F n g.iter m U P)
  (Y1:∀x U1 Z s,cQ C F Z s m U1->P x U1->∃Uq,cQ C F Z s m Uq/\∃(VO:α->AH->Prop) (a:Addr) (ao:ba) (xs:List Value),x=.ref a/\fy ao=some xs/\Uq.sees a ao/\
   (∀L2 mL,Jx C (Fc F sc L2 mL) n g (CG C (Fc F sc L2 mL) n (E (Fc F sc L2 mL)) gs) a ao xs y0 (jz sc m) Uq VO)/\
   ∀y U' Z s',cQ C F Z s' m U' ->VO y U' ->∃Ww,cQ C F Z s' m Ww /\Q' y Ww)
  (hQ:∀Ur y U' L2 oL s',cQ C F (Z++[(L2,oL)]) s' m (U'.put Ur (aoOf y))->(∀p∈Z,L2≠p.1)->(∃ml,s'.heap.Ns L2 ml)->U'.get Ur=none->Q' y U' ->
   compPost (bR C.prog C.w) F.A (λ V V=>False) XQ QQ (.ref Ur) L2 (.ok .next) s'):
  br (bR C.prog C.w) F.A (ku e sc F.env pos VR false (gb g.iter F.env) XQ) QQ (λ V V=>False) s:=by
 subst hcl
 have hfr:∀x∈sc.names,x.2=.free->∃c,F.cells.lookup x.1=some c:=λ x hx hf=>aP (S.free x hx hf) λ hk hc=>(O.cok _ hk hc)
 refine Cm Xa hs (oh λ x hx hf=>?_) S.kind (λ x hx hl=>dt hl ((iq S.nodup).mpr hx)) ?_
 ·exact aS (hfr x hx hf) λ c h=>⟨c,O.csub _ _ h⟩
 have ecl:d7 F.env.cells sc.names []=d7 F.cells sc.names []:=jp _ _ λ x hx hf=>aS (hfr x hx hf) λ c h=>(ah h (ae (O.csub _ _ h) rfl))
 refine ah ecl (h O Z s _ R λ x s₁ U1 R₁ hp=>?_)
 obtain ⟨Uq,R₂,VO,a,ao,xs,ex,hi,WJ,hCI,Vu⟩:=Y1 _ _ _ _ R₁ hp
 refine lA ex (x_ hi (R₂.smS WJ) _ _ _ _ (R₂.atS WJ) λ Vm P' VA hf hit VN XH=>?_)
 generalize hI:s₁.heap.objs.size=I at hit⊢
 have newI:s₁.heap.get? I=none:=hI▸R₂.size_none
 have R₃:cQ C F (Z++[(I,Vm)]) {s₁ with heap:=s₁.heap.push Vm} m Uq:=
  cQ.stepZ (s' :={s₁ with heap:=s₁.heap.push Vm}) (Y:=[]) (Y' :=[(I,Vm)]) O R₂.nilZ ⟨R₂.core.gens,R₂.core.os,R₂.core.dr⟩ (λ b o V e=>bb Vm e)
   (λ p hp=>ah (aq.mp hp) ⟨dt hI (bp _ hf),.inr newI⟩) (λ p V q hq=>absurd hq (dB))
 have zI:∀p∈Z,I≠p.1:=λ p hp e=>by have:=(R₂.zz p hp).1;replace this:=newI▸dc e▸this;exact (bH this).elim
 refine hnew ?_
 generalize hs2:({s₁ with heap:=s₁.heap.push Vm}:aO)=s₂ at R₃⊢
 generalize hacc:s₂.heap.objs.size=Ur
 have newA:s₂.heap.get? Ur=none:=hacc▸R₃.size_none
 have accTop:3<Ur:=hacc▸R₃.top O
 have R₄:cQ C F ((Z++[(I,Vm)])++[(Ur,ob0)]) {s₂ with heap:=s₂.heap.push ob0} m Uq:=
  cQ.stepZ (s' :={s₂ with heap:=s₂.heap.push ob0}) (Y:=[]) (Y' :=[(Ur,ob0)]) O R₃.nilZ ⟨R₃.core.gens,R₃.core.os,R₃.core.dr⟩ (λ b o V e=>bb ob0 e)
   (λ p hp=>ah (aq.mp hp) ⟨dt hacc (bp _ hf0),.inr newA⟩) (λ p V q hq=>absurd hq (dB))
 have zA:∀p∈Z++[(I,Vm)],p.1≠Ur:=λ p hp e=>by have:=(R₃.zz p hp).1;replace this:=newA▸e▸this;exact (bH this).elim
 generalize hs3:({s₂ with heap:=s₂.heap.push ob0}:aO)=s₃ at R₄⊢
 refine pk (jo (R₄.block O S) λ mL Zx O' XY R₅ back=>?_)
 generalize hL2:s₃.heap.objs.size=L2 at O' R₅ back⊢
 have zL:∀p∈(Z++[(I,Vm)])++[(Ur,ob0)],p.1≠L2:=λ p hp e=>by
  have:=bT (R₄.zz p hp).1
  replace this:=e▸hL2▸this;exact absurd this (cC _)
 have zx:∀p∈Zx,∀q∈(Z++[(I,Vm)])++[(Ur,ob0)],q.1≠p.1:=λ p hp q hq=>(R₄.own _ (XY p hp)).2.2 q hq
 have mI:(I,Vm)∈(Z++[(I,Vm)])++[(Ur,ob0)]:=av _ (ak _ (aN _))
 have mA:(Ur,ob0)∈(Z++[(I,Vm)])++[(Ur,ob0)]:=ak _ (aN _)
 have R₆:cQ C (Fc F sc L2 mL) (((Z++Zx)++[(I,Vm)])++[(Ur,ob0)]) {s₃ with heap:=km (s₃.heap.push {cls:=.type "dict",data:=.dict #[]}) sc.names} (jz sc m) Uq:=
  R₅.memZ λ p hp=>by
   simp only [az,aq] at hp⊢
   rcases hp with ((h | h) | h) | h<;>simp [h]
 refine pI (hCI L2 mL) λ J hJ0 hJs hJt hJe=>?_
 have hg0:(vq e)[0]? =some g:=ah Xa rfl
 have run:=wQ (F:=Fc F sc L2 mL) O' (W Ur (Fc F sc L2 mL).env) hg0 ZH (wI (F:=Fc F sc L2 mL) O' (W Ur _) (hE (Fc F sc L2 mL) Ur) gs 0 g (ah Xa rfl))
  hit VN XH (Z:=Z++Zx) (λ p hp=>by
   rcases az.mp hp with hp | hp
   ·exact zI p hp
   ·exact zx p hp _ mI) (zA (I,Vm) (ak _ (aN _))) hJ0 hJs hJt hJe R₆ (λ p hp=>by
   rcases az.mp hp with hp | hp
   ·exact zA p (av _ hp)
   ·exact (zx p hp _ mA).symm) h0
 refine eS run λ r s' UO=>(aH UO λ f hr Uy=>?_);clear UO;refine pG Uy λ UN y' U' R7 Wv hq=>?_;clear Uy
 subst hr
 refine aS R7.loc λ Zq hn2=>(pH (id hn2) λ oL Vd ep2 hoL VK=>?_)
 have R8:cQ C F ((Z++[(L2,oL)])++[(Ur,UN)]) s' m U' :=by
  refine back s' _ _ U' R7 (λ p hp=>av _ (ak _ hp)) λ p hp=>?_
  simp only [az,aq] at hp
  rcases hp with (hp | rfl) | rfl
  ·exact ⟨.inl (by simp [hp]),λ a ha=>(R₄.own a ha).2.2 p (av _ (av _ hp))⟩
  ·refine ⟨.inr ⟨rfl,hoL⟩,λ a ha e=>(aP (R₄.own a ha) λ UB V=>(aP UB λ UV V=>?_))⟩;clear UB;obtain ⟨o,h⟩:=UV
   have:=bT h
   replace this:=dc e▸hL2▸this;exact absurd this (cC _)
  ·exact ⟨.inl (by simp),λ a ha=>(R₄.own a ha).2.2 (Ur,ob0) mA⟩
 refine aH (Vu _ _ _ _ R8 hq) λ Ww R9 hq' =>?_
 have hacc' :s'.heap.get? Ur=some UN :=(R9.zz _ (ak _ (aN _))).1
 have hL2a:L2≠Ur:=(zL _ mA).symm
 have ZY:=R9.adopt O (ao:=aoOf y') (λ p hp=>by
  rcases az.mp hp with hp | hp
  ·exact zA p (av _ hp)
  ·exact ah (aq.mp hp) hL2a) accTop (ZR _ _ _ _ hacc' Wv)
 have:=hQ Ur y' Ww L2 oL s' ZY (λ p hp=>(zL p (av _ (av _ hp))).symm) ⟨Zq,hn2⟩ (R9.zz _ (ak _ (aN _))).2.2.2 hq'
 (try clear hQ);cases XQ with
 | none=>exact this
 | some u=>exact this
noncomputable def IG(ob:Obj)(ys:List Value):Prop:=∃(vs:List Value) (c:Nat),ob=listOf vs.toArray c/\vs.map er=ys
noncomputable def EL(C:Cx)(n:Nat)(UI:Expr)(F' :dD)(ys:List Value)(m:Str->Option Value)(U:AH)(Q:List Value->AH->Prop):Prop:=
 ys.length<=10000000/\WE C F' n UI m U λ r U' =>Q (ys++[r]) U'
theorem rY(UI:Expr)(F' :dD)(Ur:Addr):sJ C F' n (rZ UI (.ref Ur) F'.env) Ur IG (EL C n UI F'):=by
 intro O y m U Q Z s ob ⟨hz,h⟩ R hza hA
 unfold rZ
 refine aj (h O _ s _ R λ r s₁ U1 R₁ q=>?_)
 (try clear R);refine cu hA λ vs c UC e=>?_;clear hA;subst UC
 have ho:s₁.heap.get? Ur=some (listOf vs.toArray c):=(R₁.zz _ (ak _ (aN _))).1
 refine aj (append_at (hsz:=?_) ho λ h' hs ho' =>aD ⟨listOf (vs++[r]).toArray (c+1),y++[er r],U1,?_,⟨_,_,rfl,ae aE (ah e rfl)⟩,q⟩)
 ·refine cQ.stepZ (s' :={s₁ with heap:=h' }) (Y:=[(Ur,listOf vs.toArray c)]) (Y' :=[(Ur,listOf (vs++[r]).toArray (c+1))]) O R₁ ⟨R₁.core.gens,R₁.core.os,R₁.core.dr⟩
   (λ b o nb e=>(hs.2 b (λ q=>nb _ (aN _) q.symm)).trans e) (λ p hp=>?_) (λ p hp q hq=>?_)
  ·refine ah (aq.mp hp) (⟨(ae ho' ?_),.inl ⟨_,aN _,rfl⟩⟩);simp
  ·exact ah (aq.mp hq) ((hza p hp).symm)
 ·have:=eK e
  exact ah bc (ah b_ (ac (aC this) (ac hz (af _ _))))
theorem tT(UI gens sc pos):(∀d it Ur env,(gY (.ListComp UI gens sc pos) d it Ur env).isFrame=false/\(gY (.ListComp UI gens sc pos) d it Ur env).weight=0/\(gY (.ListComp UI gens sc pos) d it Ur env).cUnits=0)/\
  ∀d it Ur env,(fK (.ListComp UI gens sc pos) d it Ur env).isFrame=false/\(fK (.ListComp UI gens sc pos) d it Ur env).weight=0/\(fK (.ListComp UI gens sc pos) d it Ur env).cUnits=0/\(fK (.ListComp UI gens sc pos) d it Ur env).quiet=true:=
 ⟨λ V V V V=>⟨rfl,rfl,rfl⟩,λ V V V V=>⟨rfl,rfl,rfl,rfl⟩⟩
theorem uO(UI gens sc pos)(Ur:Addr)(env:Env):iB (.ListComp UI gens sc pos) gens (rZ UI (.ref Ur) env) Ur env:=
 ⟨rfl,λ d g it h=>yR h,(tT UI gens sc pos).1,(tT UI gens sc pos).2⟩
theorem mO{E:Value->aO->Prop}{Q:Value->aO->Prop}(h:Q (.ref s.heap.objs.size) {s with heap:=s.heap.push (listOf #[] 0)}):br M A (LZ []) Q E s:=na h (by decide)
theorem cQ.letGo(O:F.Ok C n)(R:cQ C F (Z++[(L2,oL)]) s m U)(hz:∀p∈Z,L2≠p.1)(hs:ff L2 s.heap h'):cQ C F Z {s with heap:=h' } m U:=
 cQ.dropZ (Y:=[]) (cQ.stepZ (s' :={s with heap:=h' }) (Y:=[(L2,oL)]) (Y' :=[]) O R ⟨R.core.gens,R.core.os,R.core.dr⟩ (λ b o nb e=>(hs.2 b (λ q=>nb _ (aN _) q.symm)).trans e) (λ p hp=>nomatch hp)
  (λ p hp q hq=>ah (aq.mp hq) (hz p hp)))
noncomputable def LC(C:Cx)(F:dD)(n:Nat)(UI:Expr)(g:ce)(gs:List ce)(sc:Scope)(x:Value)(m:Str->Option Value)(U:AH)(Q:List Value->AH->Prop):Prop:=
 ∃(a:Addr) (ao:ba) (xs:List Value),x=.ref a/\fy ao=some xs/\U.sees a ao/\∀L2 mL,Jx C (Fc F sc L2 mL) n g (CG C (Fc F sc L2 mL) n (EL C n UI (Fc F sc L2 mL)) gs) a ao xs [] (jz sc m) U Q
noncomputable def Tv(C:Cx)(F:dD)(n:Nat)(UI:Expr)(g:ce)(gs:List ce)(sc:Scope)(x:Value)(m:Str->Option Value)(U:AH)(Q:List Value->AH->Prop):Prop:=
 ∃(d:Addr) (kvs:List (Int×Value)),x=.ref d/\U.get d=some (.dict kvs)/\∀o L2 mL,Jx C (Fc F sc L2 mL) n g (CG C (Fc F sc L2 mL) n (EL C n UI (Fc F sc L2 mL)) gs) d (.ro o (.dict kvs)) (kvs.map λ p=>vi p.1) [] (jz sc m) (U.put d (.ro o (.dict kvs)))
  λ ys U' =>U'.get d=some (.ro o (.dict kvs))/\Q ys (U'.put d (.dict kvs))
noncomputable def Pt(C:Cx)(F:dD)(n:Nat)(UI:Expr)(g:ce)(gs:List ce)(sc:Scope)(x:Value)(m:Str->Option Value)(U:AH)(Q:List Value->AH->Prop):Prop:=
 LC C F n UI g gs sc x m U Q\/Tv C F n UI g gs sc x m U Q
theorem z_(O:F.Ok C n){Q:List Value->AH->Prop}(x:Value)(U1:AH)(Z:List (Addr×Obj))(s:aO)(R:cQ C F Z s m U1)(h:Pt C F n UI g gs sc x m U1 Q):
  ∃Uq,cQ C F Z s m Uq/\∃(VO:List Value->AH->Prop) (a:Addr) (ao:ba) (xs:List Value),x=.ref a/\fy ao=some xs/\Uq.sees a ao/\
   (∀L2 mL,Jx C (Fc F sc L2 mL) n g (CG C (Fc F sc L2 mL) n (EL C n UI (Fc F sc L2 mL)) gs) a ao xs [] (jz sc m) Uq VO)/\
   ∀y U' Z s',cQ C F Z s' m U' ->VO y U' ->∃Ww,cQ C F Z s' m Ww /\Q y Ww :=by
 rcases h with ⟨a,ao,xs,e,hi,hs,h⟩ | ⟨d,kvs,e,hd,h⟩
 ·exact ⟨U1,R,Q,a,ao,xs,e,hi,hs,h,λ y U' Z s' R q=>⟨U',R,q⟩⟩
 ·exact aS (R.lock O hd) λ o R' =>⟨_,R',_,d,_,_,e,rfl,.inl (AH.get_put_self _ _ _),h o,λ y U' Z s' R UF=>by refine aP UF λ q1 q2=>?_;clear UF;exact bY _ (R.unlock O q1) q2⟩
theorem FI{pos:Pos}{Q:Value->AH->Prop}(S:pV F sc)(hs:∀x,da it F.env x=eu x)
  (h:WE C F n it m U λ x U1=>Pt C F n UI ⟨t,it,ifs,0⟩ gs sc x m U1 λ ys U' =>∀b,U'.get b=none->Q (.ref b) (U'.put b (.list ys))):WE C F n (.ListComp UI (⟨t,it,ifs,0⟩::gs) sc pos) m U Q:=λ O Z s W R K=>by
 refine ((qn (g:=⟨t,it,ifs,0⟩) (gs:=gs) (Acc:=IG) (ob0:=listOf #[] 0) (y0:=[]) (aoOf:=.list) (emit:=λ Ur env=>rZ UI (.ref Ur) env) (E:=EL C n UI) O R S rfl rfl rfl hs (λ Ur env=>uO _ _ _ _ Ur env)
  (λ F' Ur=>rY UI F' Ur) (λ h=>mO h) rfl ⟨[],0,rfl,rfl⟩ (λ h a ob y e UP=>by refine cu UP λ vs c q e' =>?_;clear UP;exact ib vs c (ae e (ah q rfl)) e') h (z_ O) λ Ur y U' L2 oL s' R' hz hns hf hq=>?_):br _ _ (ku _ sc F.env _ (LZ []) false (gb it F.env)) _ _ s)
 exact aS hns λ ml hns=>(bY ml hns (λ h' hs' =>(K _ _ _ (R'.letGo O hz hs') (hq Ur hf))))
theorem xj{gs:List ce}{Q:ig->(Str->Option Value)->AH->Prop}
  (We:iE (.ListComp UI (⟨t,it,ifs,0⟩::gs) sc pos') (some (.Name x p')) pos.line F.env=eu true) (Sx:Stores F x) (S:pV F sc) (hs:∀x,da it F.env x=eu x)
  (h:WE C F n it m U λ XZ U1=>Pt C F n UI ⟨t,it,ifs,0⟩ gs sc XZ m U1 λ ys U' =>∀b,U'.get b=none->Q .next (fA m x (.ref b)) (U'.put b (.list ys))):
  W1 C F n (.Assign [.Name x p'] (.ListComp UI (⟨t,it,ifs,0⟩::gs) sc pos') pos) m U Q:=λ O Z s W R K=>by
 refine ah (Gu _ _ _ _ We) (aj (eR (aj (((aj (qn (g:=⟨t,it,ifs,0⟩) (gs:=gs) (Acc:=IG) (ob0:=listOf #[] 0) (y0:=[]) (aoOf:=.list) (emit:=λ Ur env=>rZ UI (.ref Ur) env) (E:=EL C n UI) O R S rfl rfl rfl hs (λ Ur env=>uO _ _ _ _ Ur env)
  (λ F' Ur=>rY UI F' Ur) (λ h=>mO h) rfl ⟨[],0,rfl,rfl⟩ (λ h a ob y e UQ=>by refine cu UQ λ vs c q e' =>?_;clear UQ;exact ib vs c (ae e (ah q rfl)) e') h (z_ O) λ Ur y U' L2 oL s' R' hz hns hf hq=>?_)):br _ _ (do let _<-ku _ sc F.env _ (LZ []) false (gb it F.env) (some (nj (.Name x p') F.env))) _ _ s)))))
 refine mw (i7 O R' Sx λ Zm Va =>(aS hns λ ml hns=>?_))
 have hoL:=(R'.zz _ (ak _ (aN _))).1
 have V_ :=(Va.zz _ (ak _ (aN _))).1
 simp only at hoL V_
 refine bY ml (en hns (λ o e=>by replace e:=hoL▸e;clear R' Va hoL;have UT:=sI e;clear e;subst UT;exact V_)) (λ h' hs' =>aD (aD (K _ _ _ _ (Va.letGo O hz hs') (hq Ur hf))))
noncomputable def Lp(C:Cx)(ob:Obj)(kvs:List (Int×Value)):Prop:=∃UA :List (Int×Value),ob.IsDictOf (iF C.prog C.w) UA /\UA.map (λ p=>(p.1,er p.2))=kvs
noncomputable def ED(C:Cx)(n:Nat)(k v:Expr)(F' :dD)(kvs:List (Int×Value))(m:Str->Option Value)(U:AH)(Q:List (Int×Value)->AH->Prop):Prop:=
 kvs.length<=10000000/\WE C F' n k m U λ kv U1=>WE C F' n v m U1 λ vv Uq=>∃i,kv=vi i/\Q (dM kvs i vv) Uq
theorem Ew(k v:Expr)(F' :dD)(Ur:Addr):sJ C F' n (wO k v Ur F'.env) Ur (Lp C) (ED C n k v F'):=by
 intro O y m U Q Z s ob ⟨hz,h⟩ R hza ⟨UA,hk,e⟩
 unfold wO
 refine aj (h O _ s _ R λ kv s₁ U1 R₁ Z3=>aj (cR (Z3 O _ s₁ _ R₁ λ vv s₂ Uq R₂ UO=>(aH UO λ i ei Z1=>?_))));clear UO
 refine aj (eR (cR (lB ei λ t=>?_)))
 have ho:s₂.heap.get? Ur=some ob:=(R₂.zz _ (ak _ (aN _))).1
 have hm:s₂.heap.DictOf (iF C.prog C.w) Ur UA :=nv.mpr ⟨ob,ho,hk⟩
 have hl:UA.length=y.length:=dt e (ah (ag ..) rfl)
 refine wpAny_dictSet_pairs (l5 C i t) hm (λ h' Vo hs=>?_) (ah b_ (ac (aC hl) (ac hz (af _ _))))
 refine aH (nv.mp Vo) λ UN ho' hk' =>(t7 UN (dM y i (er vv)) Uq (cQ.stepZ (s' :={s₂ with heap:=h',toks:=s₂.toks+1}) (Y:=[(Ur,ob)]) (Y' :=[(Ur,UN)]) O R₂ ⟨R₂.core.gens,R₂.core.os,R₂.core.dr⟩
   (λ b o nb e=>(hs.2 b (λ q=>nb _ (aN _) q.symm)).trans e) (λ p hp=>?_) (λ p hp q hq=>?_)) ⟨_,hk',by rewrite [j3 er];exact ah e rfl⟩ Z1)
 ·exact ah (aq.mp hp) ⟨ho',.inl ⟨_,aN _,rfl⟩⟩
 ·exact ah (aq.mp hq) ((hza p hp).symm)
theorem Hw(k v gens sc pos)(Ur:Addr)(env:Env):iB (.DictComp k v gens sc pos) gens (wO k v Ur env) Ur env:=
 ⟨rfl,λ d g it h=>yS h,λ V V V V=>⟨rfl,rfl,rfl⟩,λ V V V V=>⟨rfl,rfl,rfl,rfl⟩⟩
noncomputable abbrev EF:Obj:={cls:=.type "dict",data:=.dict #[]}
theorem wo{E:Value->aO->Prop}{Q:Value->aO->Prop}(h:Q (.ref s.heap.objs.size) {s with heap:=s.heap.push EF}):br M A TG Q E s:=by
 unfold TG
 exact mv h
theorem EE:Lp C EF []:=by
 refine aH (nv.mp (lc (knd:=iF C.prog C.w) ({}:Heap))) λ o ho hk=>?_
 rewrite [bp _ rfl] at ho
 have U9:=sI ho;clear ho;subst U9
 exact bY [] hk rfl
noncomputable def DC(C:Cx)(F:dD)(n:Nat)(k v:Expr)(g:ce)(gs:List ce)(sc:Scope)(x:Value)(m:Str->Option Value)(U:AH)(Q:List (Int×Value)->AH->Prop):Prop:=
 ∃(a:Addr) (ao:ba) (xs:List Value),x=.ref a/\fy ao=some xs/\U.sees a ao/\∀L2 mL,Jx C (Fc F sc L2 mL) n g (CG C (Fc F sc L2 mL) n (ED C n k v (Fc F sc L2 mL)) gs) a ao xs [] (jz sc m) U Q
noncomputable def TB(C:Cx)(F:dD)(n:Nat)(k v:Expr)(g:ce)(gs:List ce)(sc:Scope)(x:Value)(m:Str->Option Value)(U:AH)(Q:List (Int×Value)->AH->Prop):Prop:=
 ∃(d:Addr) (kvs:List (Int×Value)),x=.ref d/\U.get d=some (.dict kvs)/\∀o L2 mL,Jx C (Fc F sc L2 mL) n g (CG C (Fc F sc L2 mL) n (ED C n k v (Fc F sc L2 mL)) gs) d (.ro o (.dict kvs)) (kvs.map λ p=>vi p.1) [] (jz sc m) (U.put d (.ro o (.dict kvs)))
  λ ys U' =>U'.get d=some (.ro o (.dict kvs))/\Q ys (U'.put d (.dict kvs))
noncomputable def RA(C:Cx)(F:dD)(n:Nat)(k v:Expr)(g:ce)(gs:List ce)(sc:Scope)(x:Value)(m:Str->Option Value)(U:AH)(Q:List (Int×Value)->AH->Prop):Prop:=
 DC C F n k v g gs sc x m U Q\/TB C F n k v g gs sc x m U Q
theorem Hy(O:F.Ok C n){Q:List (Int×Value)->AH->Prop}(x:Value)(U1:AH)(Z:List (Addr×Obj))(s:aO)(R:cQ C F Z s m U1)(h:RA C F n k v g gs sc x m U1 Q):
  ∃Uq,cQ C F Z s m Uq/\∃(VO:List (Int×Value)->AH->Prop) (a:Addr) (ao:ba) (xs:List Value),x=.ref a/\fy ao=some xs/\Uq.sees a ao/\
   (∀L2 mL,Jx C (Fc F sc L2 mL) n g (CG C (Fc F sc L2 mL) n (ED C n k v (Fc F sc L2 mL)) gs) a ao xs [] (jz sc m) Uq VO)/\
   ∀y U' Z s',cQ C F Z s' m U' ->VO y U' ->∃Ww,cQ C F Z s' m Ww /\Q y Ww :=by
 rcases h with ⟨a,ao,xs,e,hi,hs,h⟩ | ⟨d,kvs,e,hd,h⟩
 ·exact ⟨U1,R,Q,a,ao,xs,e,hi,hs,h,λ y U' Z s' R q=>⟨U',R,q⟩⟩
 ·exact aS (R.lock O hd) λ o R' =>⟨_,R',_,d,_,_,e,rfl,.inl (AH.get_put_self _ _ _),h o,λ y U' Z s' R UM=>by refine aP UM λ q1 q2=>?_;clear UM;exact bY _ (R.unlock O q1) q2⟩
theorem FM{pos:Pos}{Q:Value->AH->Prop}(S:pV F sc)(hs:∀x,da it F.env x=eu x)
  (h:WE C F n it m U λ x U1=>RA C F n k v ⟨t,it,ifs,0⟩ gs sc x m U1 λ ys U' =>∀b,U'.get b=none->Q (.ref b) (U'.put b (.dict ys))):WE C F n (.DictComp k v (⟨t,it,ifs,0⟩::gs) sc pos) m U Q:=λ O Z s W R K=>by
 refine ((qn (g:=⟨t,it,ifs,0⟩) (gs:=gs) (Acc:=Lp C) (ob0:=EF) (y0:=[]) (aoOf:=.dict) (emit:=λ Ur env=>wO k v Ur env) (E:=ED C n k v) O R S rfl rfl rfl hs (λ Ur env=>Hw _ _ _ _ _ Ur env)
  (λ F' Ur=>Ew k v F' Ur) (λ h=>wo h) rfl EE (λ h a ob y e UW=>by refine aH UW λ kvs q e' =>?_;clear UW;exact bY kvs (nv.mpr ⟨ob,e,q⟩) e') h (Hy O) λ Ur y U' L2 oL s' R' hz hns hf hq=>?_):br _ _ (ku _ sc F.env _ TG false (gb it F.env)) _ _ s)
 exact aS hns λ ml hns=>(bY ml hns (λ h' hs' =>(K _ _ _ (R'.letGo O hz hs') (hq Ur hf))))
end
end
section
noncomputable def Sg(l:List Stmt)(i:Nat):Stmt:=match l.drop i with
 | s::_=>s
 | []=> .Return none ⟨0,0,0,0⟩
noncomputable def Go(i:Nat):Stmt:=Sg (ej).main.body i
noncomputable def mem(i j:Nat):Stmt:=match Go i with
 | .ClassDef _ _ _ b _ _ _ _ _ _ _=>Sg b j
 | s=>s
noncomputable def di(s:String)(t:Tok):Value:=.str (bg s) t
noncomputable def de(P:iu)(s:String)(t:Tok)(v:Value):DictEntry:=TU (sP P (bg s)) (di s t) v
noncomputable def cd(a:Array Value):Obj:=gM (.type "code") none (oA a) #[]
noncomputable def fo(st:Stmt)(q:String)(cl:List (Str×Addr))(pm:Value)(c:Addr)(ct:Value)(bi:Addr):Obj:=match st with
 | .FunctionDef n a b _ _ _ sc _ _ _=>gM (.type "function") none (.func (Un n (bg q) a (.stmts b) sc 3 cl .none .none .none pm none (.ref c) ct bi)) #[]
 | _=>gM .none none (.fields #[]) #[]
noncomputable def KH(P:iu):Frag:=[
(2,gM .none none (oS #[de P "type.__subclasses__.Exception.0" 223 (.int 40 0),de P "type.__subclasses__.Exception.n" 224 (.int 1 0)] 2) #[]),
(3,gM (.type "dict") none (oS #[de P "__name__" 165 (di "law_nz0391_01" 491),de P "__doc__" 166 .none,de P "__package__" 167 .none,de P "__loader__" 168 (.builtin "__main__.__loader__#opaque"),de P "__spec__" 169 .none,de P "__annotations__" 170 (.ref 6),de P "__builtins__" 171 (.ref 4),de P "__file__" 173 (di "/claim/cut.py" 172),de P "__cached__" 174 .none,de P "FinderError" 226 (.ref 40),de P "LimitFault" 242 (.ref 53),de P "FIRST_SPAN" 246 (.int 16 245),de P "MOST_HEAT" 248 (.int 1000000000 247),de P "ordered" 257 (.ref 62),de P "Values" 319 (.ref 100),de P "Search" 490 (.ref 220),de P "_law_draw" 501 (.ref 229),de P "_law_literals" 513 (.ref 236),de P "_law_holds" 521 (.ref 243),de P "_law_worlds" 527 (.ref 248),de P "_law_choice" 533 (.ref 253),de P "_law_barring" 539 (.ref 258),de P "_law_asked" 545 (.ref 263),de P "law" 551 (.ref 268)] 24) #[]),
(18,gM (.type "cell") none (RW (some (.ref 40))) #[]),
(29,cd #[di "__init__" 201,di "FinderError.__init__" 202,di "/claim/cut.py" 203,.int 4 0,.int 2 0,.int 0 0,.int 0 0,.int 3 0,.ref 24,.bool true,.int 181 0,.ref 25,.none,.ref 26,.ref 27,.ref 28,.int 207 0,.int 4 0,di "/claim/cut.py" 208]),
(36,cd #[di "told" 210,di "FinderError.told" 211,di "/claim/cut.py" 212,.int 8 0,.int 1 0,.int 0 0,.int 0 0,.int 3 0,.ref 31,.bool true,.int 181 0,.ref 32,.none,.ref 33,.ref 34,.ref 35,.int 214 0,.int 8 0,di "/claim/cut.py" 215]),
(39,gM (.type "dict") none (oS #[de P "__module__" 196 (di "relfinder.errors" 187),de P "__firstlineno__" 200 (.int 2 199),de P "__init__" 209 (.ref 30),de P "told" 216 (.ref 37),de P "__static_attributes__" 218 (.ref 38),de P "__weakref__" 221 (.ref 41),de P "__doc__" 222 .none] 4) #[]),
(40,gM (.type "type") none (AV (oU (bg "FinderError") [.type "Exception"] [.ref 40,.type "Exception",.type "BaseException",.type "object"] 39 (bg "FinderError") true [] [.ref 53] false none false)) #[some (.ref 15),none,some (di "FinderError" 189),some (di "FinderError" 197),some (.builtin "Exception.__new__"),some (.bool true)]),
(41,gM (.type "getset_descriptor") none (oA #[di "__weakref__" 220,.ref 40,.builtin "ExceptionGroup.__weakref__",.none]) #[]),
(52,gM (.type "dict") none (oS #[de P "__module__" 234 (di "relfinder.errors" 187),de P "__firstlineno__" 238 (.int 10 237),de P "__static_attributes__" 239 (.ref 51),de P "__doc__" 240 .none] 2) #[]),
(53,gM (.type "type") none (AV (oU (bg "LimitFault") [.ref 40] [.ref 53,.ref 40,.type "Exception",.type "BaseException",.type "object"] 52 (bg "LimitFault") true [] [] false none false)) #[some (.ref 44),none,some (di "LimitFault" 227),some (di "LimitFault" 235),some (.builtin "Exception.__new__"),some (.bool true)]),
(61,cd #[di "ordered" 249,di "ordered" 250,di "/claim/cut.py" 251,.int 15 0,.int 1 0,.int 0 0,.int 0 0,.int 3 0,.ref 56,.bool true,.int 181 0,.ref 57,.none,.ref 58,.ref 59,.ref 60,.int 255 0,.int 15 0,di "/claim/cut.py" 256]),
(62,fo (Go 6) "ordered" [] (di "relfinder.solver" 243) 61 .none 0),
(75,cd #[di "__init__" 270,di "Values.__init__" 271,di "/claim/cut.py" 272,.int 24 0,.int 1 0,.int 0 0,.int 0 0,.int 3 0,.ref 70,.bool true,.int 181 0,.ref 71,.none,.ref 72,.ref 73,.ref 74,.int 274 0,.int 24 0,di "/claim/cut.py" 275]),
(76,fo (mem 7 0) "Values.__init__" [] (di "relfinder.solver" 243) 75 .none 0),
(82,cd #[di "says" 277,di "Values.says" 278,di "/claim/cut.py" 279,.int 33 0,.int 2 0,.int 0 0,.int 0 0,.int 3 0,.ref 77,.bool true,.int 181 0,.ref 78,.none,.ref 79,.ref 80,.ref 81,.int 283 0,.int 33 0,di "/claim/cut.py" 284]),
(83,fo (mem 7 1) "Values.says" [] (di "relfinder.solver" 243) 82 .none 0),
(89,cd #[di "let" 286,di "Values.let" 287,di "/claim/cut.py" 288,.int 37 0,.int 3 0,.int 0 0,.int 0 0,.int 3 0,.ref 84,.bool true,.int 181 0,.ref 85,.none,.ref 86,.ref 87,.ref 88,.int 293 0,.int 37 0,di "/claim/cut.py" 294]),
(90,fo (mem 7 2) "Values.let" [] (di "relfinder.solver" 243) 89 .none 0),
(96,cd #[di "back_to" 296,di "Values.back_to" 297,di "/claim/cut.py" 298,.int 44 0,.int 2 0,.int 0 0,.int 0 0,.int 3 0,.ref 91,.bool true,.int 181 0,.ref 92,.none,.ref 93,.ref 94,.ref 95,.int 302 0,.int 44 0,di "/claim/cut.py" 303]),
(97,fo (mem 7 3) "Values.back_to" [] (di "relfinder.solver" 243) 96 .none 0),
(99,gM (.type "dict") none (oS #[de P "__module__" 265 (di "relfinder.solver" 243),de P "__firstlineno__" 269 (.int 22 268),de P "__init__" 276 (.ref 76),de P "says" 285 (.ref 83),de P "let" 295 (.ref 90),de P "back_to" 304 (.ref 97),de P "__static_attributes__" 312 (.ref 98),de P "__dict__" 314 (.ref 101),de P "__weakref__" 316 (.ref 102),de P "__doc__" 317 .none] 4) #[]),
(100,gM (.type "type") none (AV (oU (bg "Values") [.type "object"] [.ref 100,.type "object"] 99 (bg "Values") true [] [.ref 220] false none false)) #[none,none,some (di "Values" 258),some (di "Values" 266),some (.builtin "object.__new__"),some (.bool true)]),
(101,gM (.type "getset_descriptor") none (oA #[di "__dict__" 313,.ref 100,.builtin "function.__dict__",.builtin "function.__dict__#set"]) #[]),
(102,gM (.type "getset_descriptor") none (oA #[di "__weakref__" 315,.ref 100,.builtin "ExceptionGroup.__weakref__",.none]) #[]),
(105,gM (.type "tuple") none (SM #[.ref 100]) #[]),
(108,gM (.type "cell") none (RW (some (.ref 220))) #[]),
(113,gM (.type "tuple") none (SM #[.ref 108]) #[]),
(117,cd #[di "__init__" 332,di "Search.__init__" 333,di "/claim/cut.py" 334,.int 53 0,.int 3 0,.int 0 0,.int 0 0,.int 3 0,.ref 114,.bool true,.int 181 0,.ref 115,.none,.none,.none,.ref 116,.int 336 0,.int 53 0,di "/claim/cut.py" 337]),
(118,fo (mem 8 0) "Search.__init__" [(bg "__class__",108)] (di "relfinder.solver" 243) 117 (.ref 113) 0),
(122,cd #[di "add_clause" 339,di "Search.add_clause" 340,di "/claim/cut.py" 341,.int 67 0,.int 2 0,.int 0 0,.int 0 0,.int 3 0,.ref 119,.bool true,.int 181 0,.ref 120,.none,.none,.none,.ref 121,.int 342 0,.int 67 0,di "/claim/cut.py" 343]),
(123,fo (mem 8 1) "Search.add_clause" [] (di "relfinder.solver" 243) 122 .none 0),
(129,cd #[di "refute" 345,di "Search.refute" 346,di "/claim/cut.py" 347,.int 83 0,.int 1 0,.int 0 0,.int 0 0,.int 3 0,.ref 124,.bool true,.int 181 0,.ref 125,.none,.ref 126,.ref 127,.ref 128,.int 349 0,.int 83 0,di "/claim/cut.py" 350]),
(130,fo (mem 8 2) "Search.refute" [] (di "relfinder.solver" 243) 129 .none 0),
(136,cd #[di "keep" 352,di "Search.keep" 353,di "/claim/cut.py" 354,.int 87 0,.int 2 0,.int 0 0,.int 0 0,.int 3 0,.ref 131,.bool true,.int 181 0,.ref 132,.none,.ref 133,.ref 134,.ref 135,.int 358 0,.int 87 0,di "/claim/cut.py" 359]),
(137,fo (mem 8 3) "Search.keep" [] (di "relfinder.solver" 243) 136 .none 0),
(143,cd #[di "spread" 361,di "Search.spread" 362,di "/claim/cut.py" 363,.int 93 0,.int 1 0,.int 0 0,.int 0 0,.int 3 0,.ref 138,.bool true,.int 181 0,.ref 139,.none,.ref 140,.ref 141,.ref 142,.int 370 0,.int 93 0,di "/claim/cut.py" 371]),
(144,fo (mem 8 4) "Search.spread" [] (di "relfinder.solver" 243) 143 .none 0),
(150,cd #[di "has_moved" 373,di "Search.has_moved" 374,di "/claim/cut.py" 375,.int 110 0,.int 3 0,.int 0 0,.int 0 0,.int 3 0,.ref 145,.bool true,.int 181 0,.ref 146,.none,.ref 147,.ref 148,.ref 149,.int 381 0,.int 110 0,di "/claim/cut.py" 382]),
(151,fo (mem 8 5) "Search.has_moved" [] (di "relfinder.solver" 243) 150 .none 0),
(155,cd #[di "warm" 384,di "Search.warm" 385,di "/claim/cut.py" 386,.int 123 0,.int 2 0,.int 0 0,.int 0 0,.int 3 0,.ref 152,.bool true,.int 181 0,.ref 153,.none,.none,.none,.ref 154,.int 387 0,.int 123 0,di "/claim/cut.py" 388]),
(156,fo (mem 8 6) "Search.warm" [] (di "relfinder.solver" 243) 155 .none 0),
(162,cd #[di "lesson" 390,di "Search.lesson" 391,di "/claim/cut.py" 392,.int 129 0,.int 2 0,.int 0 0,.int 0 0,.int 3 0,.ref 157,.bool true,.int 181 0,.ref 158,.none,.ref 159,.ref 160,.ref 161,.int 402 0,.int 129 0,di "/claim/cut.py" 403]),
(163,fo (mem 8 7) "Search.lesson" [] (di "relfinder.solver" 243) 162 .none 0),
(169,cd #[di "height_of" 405,di "Search.height_of" 406,di "/claim/cut.py" 407,.int 149 0,.int 2 0,.int 0 0,.int 0 0,.int 3 0,.ref 164,.bool true,.int 181 0,.ref 165,.none,.ref 166,.ref 167,.ref 168,.int 410 0,.int 149 0,di "/claim/cut.py" 411]),
(170,fo (mem 8 8) "Search.height_of" [] (di "relfinder.solver" 243) 169 .none 0),
(176,cd #[di "learn" 413,di "Search.learn" 414,di "/claim/cut.py" 415,.int 152 0,.int 2 0,.int 0 0,.int 0 0,.int 3 0,.ref 171,.bool true,.int 181 0,.ref 172,.none,.ref 173,.ref 174,.ref 175,.int 419 0,.int 152 0,di "/claim/cut.py" 420]),
(177,fo (mem 8 9) "Search.learn" [] (di "relfinder.solver" 243) 176 .none 0),
(181,cd #[di "blame" 422,di "Search.blame" 423,di "/claim/cut.py" 424,.int 164 0,.int 2 0,.int 0 0,.int 0 0,.int 3 0,.ref 178,.bool true,.int 181 0,.ref 179,.none,.none,.none,.ref 180,.int 425 0,.int 164 0,di "/claim/cut.py" 426]),
(182,fo (mem 8 10) "Search.blame" [] (di "relfinder.solver" 243) 181 .none 0),
(188,cd #[di "hottest" 428,di "Search.hottest" 429,di "/claim/cut.py" 430,.int 178 0,.int 1 0,.int 0 0,.int 0 0,.int 3 0,.ref 183,.bool true,.int 181 0,.ref 184,.none,.ref 185,.ref 186,.ref 187,.int 434 0,.int 178 0,di "/claim/cut.py" 435]),
(189,fo (mem 8 11) "Search.hottest" [] (di "relfinder.solver" 243) 188 .none 0),
(195,cd #[di "decide" 437,di "Search.decide" 438,di "/claim/cut.py" 439,.int 186 0,.int 2 0,.int 0 0,.int 0 0,.int 3 0,.ref 190,.bool true,.int 181 0,.ref 191,.none,.ref 192,.ref 193,.ref 194,.int 444 0,.int 186 0,di "/claim/cut.py" 445]),
(196,fo (mem 8 12) "Search.decide" [] (di "relfinder.solver" 243) 195 .none 0),
(202,cd #[di "solve" 447,di "Search.solve" 448,di "/claim/cut.py" 449,.int 202 0,.int 2 0,.int 0 0,.int 0 0,.int 3 0,.ref 197,.bool true,.int 181 0,.ref 198,.none,.ref 199,.ref 200,.ref 201,.int 458 0,.int 202 0,di "/claim/cut.py" 459]),
(203,fo (mem 8 13) "Search.solve" [] (di "relfinder.solver" 243) 202 .none 0),
(209,cd #[di "value" 461,di "Search.value" 462,di "/claim/cut.py" 463,.int 221 0,.int 2 0,.int 0 0,.int 0 0,.int 3 0,.ref 204,.bool true,.int 181 0,.ref 205,.none,.ref 206,.ref 207,.ref 208,.int 466 0,.int 221 0,di "/claim/cut.py" 467]),
(210,fo (mem 8 14) "Search.value" [] (di "relfinder.solver" 243) 209 .none 0),
(216,cd #[di "failed" 469,di "Search.failed" 470,di "/claim/cut.py" 471,.int 224 0,.int 1 0,.int 0 0,.int 0 0,.int 3 0,.ref 211,.bool true,.int 181 0,.ref 212,.none,.ref 213,.ref 214,.ref 215,.int 473 0,.int 224 0,di "/claim/cut.py" 474]),
(217,fo (mem 8 15) "Search.failed" [] (di "relfinder.solver" 243) 216 .none 0),
(219,gM (.type "dict") none (oS #[de P "__module__" 327 (di "relfinder.solver" 243),de P "__firstlineno__" 331 (.int 51 330),de P "__init__" 338 (.ref 118),de P "add_clause" 344 (.ref 123),de P "refute" 351 (.ref 130),de P "keep" 360 (.ref 137),de P "spread" 372 (.ref 144),de P "has_moved" 383 (.ref 151),de P "warm" 389 (.ref 156),de P "lesson" 404 (.ref 163),de P "height_of" 412 (.ref 170),de P "learn" 421 (.ref 177),de P "blame" 427 (.ref 182),de P "hottest" 436 (.ref 189),de P "decide" 446 (.ref 196),de P "solve" 460 (.ref 203),de P "value" 468 (.ref 210),de P "failed" 475 (.ref 217),de P "__static_attributes__" 486 (.ref 218),de P "__doc__" 488 .none] 3) #[]),
(220,gM (.type "type") none (AV (oU (bg "Search") [.ref 100] [.ref 220,.ref 100,.type "object"] 219 (bg "Search") true [] [] false none false)) #[some (.ref 105),none,some (di "Search" 320),some (di "Search" 328),some (.builtin "object.__new__"),some (.bool true)]),
(228,cd #[di "_law_draw" 493,di "_law_draw" 494,di "/claim/cut.py" 495,.int 227 0,.int 2 0,.int 0 0,.int 0 0,.int 3 0,.ref 223,.bool true,.int 181 0,.ref 224,.none,.ref 225,.ref 226,.ref 227,.int 499 0,.int 227 0,di "/claim/cut.py" 500]),
(229,fo (Go 10) "_law_draw" [] (di "law_nz0391_01" 491) 228 .none 0),
(235,cd #[di "_law_literals" 502,di "_law_literals" 503,di "/claim/cut.py" 504,.int 233 0,.int 3 0,.int 0 0,.int 0 0,.int 3 0,.ref 230,.bool true,.int 181 0,.ref 231,.none,.ref 232,.ref 233,.ref 234,.int 511 0,.int 233 0,di "/claim/cut.py" 512]),
(236,fo (Go 11) "_law_literals" [] (di "law_nz0391_01" 491) 235 .none 0),
(242,cd #[di "_law_holds" 514,di "_law_holds" 515,di "/claim/cut.py" 516,.int 239 0,.int 2 0,.int 0 0,.int 0 0,.int 3 0,.ref 237,.bool true,.int 181 0,.ref 238,.none,.ref 239,.ref 240,.ref 241,.int 519 0,.int 239 0,di "/claim/cut.py" 520]),
(243,fo (Go 12) "_law_holds" [] (di "law_nz0391_01" 491) 242 .none 0),
(247,cd #[di "_law_worlds" 522,di "_law_worlds" 523,di "/claim/cut.py" 524,.int 241 0,.int 2 0,.int 0 0,.int 0 0,.int 3 0,.ref 244,.bool true,.int 181 0,.ref 245,.none,.none,.none,.ref 246,.int 525 0,.int 241 0,di "/claim/cut.py" 526]),
(248,fo (Go 13) "_law_worlds" [] (di "law_nz0391_01" 491) 247 .none 0),
(252,cd #[di "_law_choice" 528,di "_law_choice" 529,di "/claim/cut.py" 530,.int 246 0,.int 2 0,.int 0 0,.int 0 0,.int 3 0,.ref 249,.bool true,.int 181 0,.ref 250,.none,.none,.none,.ref 251,.int 531 0,.int 246 0,di "/claim/cut.py" 532]),
(253,fo (Go 14) "_law_choice" [] (di "law_nz0391_01" 491) 252 .none 0),
(257,cd #[di "_law_barring" 534,di "_law_barring" 535,di "/claim/cut.py" 536,.int 248 0,.int 3 0,.int 0 0,.int 0 0,.int 3 0,.ref 254,.bool true,.int 181 0,.ref 255,.none,.none,.none,.ref 256,.int 537 0,.int 248 0,di "/claim/cut.py" 538]),
(258,fo (Go 15) "_law_barring" [] (di "law_nz0391_01" 491) 257 .none 0),
(262,cd #[di "_law_asked" 540,di "_law_asked" 541,di "/claim/cut.py" 542,.int 253 0,.int 4 0,.int 0 0,.int 0 0,.int 3 0,.ref 259,.bool true,.int 181 0,.ref 260,.none,.none,.none,.ref 261,.int 543 0,.int 253 0,di "/claim/cut.py" 544]),
(263,fo (Go 16) "_law_asked" [] (di "law_nz0391_01" 491) 262 .none 0),
(267,cd #[di "law" 546,di "law" 547,di "/claim/cut.py" 548,.int 269 0,.int 1 0,.int 0 0,.int 0 0,.int 3 0,.ref 264,.bool true,.int 181 0,.ref 265,.none,.none,.none,.ref 266,.int 549 0,.int 269 0,di "/claim/cut.py" 550]),
(268,fo (Go 17) "law" [] (di "law_nz0391_01" 491) 267 .none 0)]
noncomputable def bd:List Stmt->List Stmt
 | _::a::b::_::c::d::e::f::g::_::r=>a::b::c::d::e::f::g::r
 | l=>l
noncomputable def vw:Program:={ej with main:={(ej).main with body:=bd (ej).main.body}}
noncomputable def Ll:Hook:=kHook KH [2,3,18,29,36,39,40,41,52,53,61,62,75,76,82,83,89,90,96,97,99,100,101,102,105,108,113,117,118,122,123,129,130,136,137,143,144,150,151,155,156,162,163,169,170,176,177,181,182,188,189,195,196,202,203,209,210,216,217,219,220,228,229,235,236,242,243,247,248,252,253,257,258,262,263,267,268] (λ V=>by kernel_rfl)
theorem hl:LeftO ej vw [] (λ s=>xlAt vw [] s&&recOk (L7 dJ.row.toRowW) s) (SL Ll) (SK Ll) 3872:=by
 intro w
 kernel_rfl
end
section
noncomputable abbrev KK(p:iu):Frag:=Mine.KH p
structure Sx where
 prog:Program
 w:jk
 p:Program
 loose:List Str
 mean:ExcName->Option Value
 mg:Str->Option Value
 mb:Str->Option Value
 os:OsState
 drawn:Drawn
noncomputable abbrev CX(X:Sx):Cx:=⟨X.prog,X.w,KK X.w.params,X.p,X.loose,X.mean,X.mg,X.mb,X.os,X.drawn⟩
structure SS where
 known:List (Int×Bool)
 heights:List (Int×Nat)
 causes:List (Int×Option Nat)
 row:List Int
 begins:List Nat
 seen:Nat
 liked:List (Int×Bool)
 rows:List (List Int)
 watch:List (Int×List Nat)
 heats:List (Int×Int)
 gain:Int
 log:List (List Int)
 refuted:Bool
 blamed:List Int
 clashes:Nat
 limit:Int
 lock:Option Obj
@[reducible] noncomputable def SS.uKnown(S:SS)(x:List (Int×Bool)):SS:={S with known:=x}
@[reducible] noncomputable def SS.uHeights(S:SS)(x:List (Int×Nat)):SS:={S with heights:=x}
@[reducible] noncomputable def SS.uCauses(S:SS)(x:List (Int×Option Nat)):SS:={S with causes:=x}
@[reducible] noncomputable def SS.uRow(S:SS)(x:List Int):SS:={S with row:=x}
@[reducible] noncomputable def SS.uBegins(S:SS)(x:List Nat):SS:={S with begins:=x}
@[reducible] noncomputable def SS.uSeen(S:SS)(x:Nat):SS:={S with seen:=x}
@[reducible] noncomputable def SS.uLiked(S:SS)(x:List (Int×Bool)):SS:={S with liked:=x}
@[reducible] noncomputable def SS.uRows(S:SS)(x:List (List Int)):SS:={S with rows:=x}
@[reducible] noncomputable def SS.uWatch(S:SS)(x:List (Int×List Nat)):SS:={S with watch:=x}
@[reducible] noncomputable def SS.uHeats(S:SS)(x:List (Int×Int)):SS:={S with heats:=x}
@[reducible] noncomputable def SS.uGain(S:SS)(x:Int):SS:={S with gain:=x}
@[reducible] noncomputable def SS.uLog(S:SS)(x:List (List Int)):SS:={S with log:=x}
@[reducible] noncomputable def SS.uRefuted(S:SS)(x:Bool):SS:={S with refuted:=x}
@[reducible] noncomputable def SS.uBlamed(S:SS)(x:List Int):SS:={S with blamed:=x}
@[reducible] noncomputable def SS.uClashes(S:SS)(x:Nat):SS:={S with clashes:=x}
@[reducible] noncomputable def SS.uLimit(S:SS)(x:Int):SS:={S with limit:=x}
@[reducible] noncomputable def SS.uLock(S:SS)(x:Option Obj):SS:={S with lock:=x}
inductive tg where
 | self | ns | known | heights | causes | row | begins | liked | rows | watching | heats | log | blamed
 | rowL (i:Nat) | wl (l:Int) | logT (i:Nat)
noncomputable abbrev Ad:=tg->Addr
noncomputable def vY(A:Ad)(a:Addr):Ad
 | .begins=>a
 | u=>A u
noncomputable def zB(A:Ad)(a:Addr):Ad
 | .heats=>a
 | u=>A u
noncomputable def vX(A:Ad)(a:Addr):Ad
 | .blamed=>a
 | u=>A u
noncomputable def xQ(A:Ad)(n:Nat)(a:Addr):Ad
 | .rowL i=>if i=n then a else A (.rowL i)
 | u=>A u
noncomputable def ug(A:Ad)(l:Int)(a:Addr):Ad
 | .wl k=>if k=l then a else A (.wl k)
 | u=>A u
noncomputable def xR(A:Ad)(n:Nat)(a:Addr):Ad
 | .logT i=>if i=n then a else A (.logT i)
 | u=>A u
noncomputable abbrev vn(n:Nat):Value:=vi (n:Int)
noncomputable def vb(b:Bool):Value:=.bool b
noncomputable def vo:Option Nat->Value
 | none=> .none
 | some k=>vn k
noncomputable def lk{α:Type}:List (Int×α)->Int->Option α
 | [],_=>none
 | (k,v)::r,l=>if k=l then some v else lk r l
noncomputable def ins{α:Type}:List (Int×α)->Int->α->List (Int×α)
 | [],l,v=>[(l,v)]
 | (k,w)::r,l,v=>if k=l then (k,v)::r else (k,w)::ins r l v
noncomputable def del{α:Type}(r:List (Int×α))(l:Int):List (Int×α):=r.filter λ p=>decide (p.1≠l)
theorem uD{α:Type}(k:Int)(v:α)(r:List (Int×α))(l:Int):lk ((k,v)::r) l=if k=l then some v else lk r l:=rfl
theorem I'{α:Type}(k:Int)(w:α)(r:List (Int×α))(l:Int)(v:α):ins ((k,w)::r) l v=if k=l then (k,v)::r else (k,w)::ins r l v:=rfl
noncomputable def mh{α:Type}(f:α->Value)(r:List (Int×α)):List (Int×Value):=r.map λ p=>(p.1,f p.2)
noncomputable def kA{α:Type}(r:List (Int×α)):Prop:=(r.map (·.1)).Nodup
noncomputable def fields(A:Ad)(S:SS):List (Str×Value):=
 [("known",.ref (A .known)),("heights",.ref (A .heights)),("causes",.ref (A .causes)),("row",.ref (A .row)),("begins",.ref (A .begins)),("seen",vn S.seen),("liked",.ref (A .liked)),
  ("rows",.ref (A .rows)),("watching",.ref (A .watching)),("heats",.ref (A .heats)),("gain",vi S.gain),("log",.ref (A .log)),("is_refuted",.bool S.refuted),("blamed",.ref (A .blamed)),("clashes",vn S.clashes),("conflict_limit",vi S.limit)]
noncomputable def refsOf(f:Nat->Addr)(n:Nat):List Value:=(bk n).map λ i=> .ref (f i)
noncomputable def lN(l:Option Obj)(x:ba):ba:=match l with
 | none=>x
 | some o=> .ro o x
noncomputable def fS(A:Ad)(S:SS):tg->Option ba
 | .self=>some (.inst 220 (A .ns))
 | .ns=>some (.ns (fields A S))
 | .known=>some (.dict (mh vb S.known))
 | .heights=>some (.dict (mh vn S.heights))
 | .causes=>some (.dict (mh vo S.causes))
 | .row=>some (.list (S.row.map vi))
 | .begins=>some (.list (S.begins.map vn))
 | .liked=>some (.dict (mh vb S.liked))
 | .rows=>some (.list (refsOf (λ i=>A (.rowL i)) S.rows.length))
 | .watching=>some (.dict (S.watch.map λ p=>(p.1,.ref (A (.wl p.1)))))
 | .heats=>some (lN S.lock (.dict (mh vi S.heats)))
 | .log=>some (.list (refsOf (λ i=>A (.logT i)) S.log.length))
 | .blamed=>some (.tup (S.blamed.map vi))
 | .rowL i=>S.rows[i]?.map λ r=> .list (r.map vi)
 | .wl l=>(lk S.watch l).map λ r=> .list (r.map vn)
 | .logT i=>S.log[i]?.map λ r=> .tup (r.map vi)
noncomputable def live(S:SS):tg->Prop
 | .rowL i=>i<S.rows.length
 | .wl l=>(lk S.watch l).isSome
 | .logT i=>i<S.log.length
 | _=>True
theorem eP:live S t↔∃o,fS A S t=some o:=by
 cases t with
 | rowL i=>refine (?_:i<S.rows.length↔∃o,(S.rows[i]?.map λ r=>ba.list (r.map vi))=some o);simp only [aX];exact ⟨λ h=>⟨_,_,aB h,rfl⟩,λ Uv=>by refine cu Uv λ V V h V=>?_;clear Uv;exact (al.mp h).1⟩
 | logT i=>refine (?_:i<S.log.length↔∃o,(S.log[i]?.map λ r=>ba.tup (r.map vi))=some o);simp only [aX];exact ⟨λ h=>⟨_,_,aB h,rfl⟩,λ Uy=>by refine cu Uy λ V V h V=>?_;clear Uy;exact (al.mp h).1⟩
 | wl l=>refine (?_:(lk S.watch l).isSome↔∃o,((lk S.watch l).map λ r=>ba.list (r.map vn))=some o);simp only [aX,cz];exact ⟨λ UB=>by refine aS UB λ x h=>?_;clear UB;exact ib _ x h rfl,λ UC=>by refine cu UC λ V x h V=>?_;clear UC;exact ⟨x,h⟩⟩
 | _=>exact ⟨λ V=>⟨_,rfl⟩,λ V=>trivial⟩
theorem gL{α:Type}(f:α->Value):∀(r:List (Int×α)) (l:Int),iV (mh f r) l=(lk r l).map f
 | [],l=>rfl
 | (k,v)::r,l=>by
  have ih:=gL f r l
  unfold iV dE at ih⊢
  unfold mh at ih⊢
  simp only [aU,iH,uD]
  by_cases h:k=l
  ·simp [h]
  ·simp only [h,decide_false,if_false];exact ih
theorem v9{α:Type}(k:Int)(v:Value)(r:List (Int×Value))(l:Int)(x:Value)(hn:((k,v)::r).map (·.1) |>.Nodup):dM ((k,v)::r) l x=if k=l then (k,x)::r else (k,v)::dM r l x:=by
 simp only [aU,aY] at hn
 unfold dM
 simp only [LI,aU]
 by_cases h:k=l
 ·subst h
  simp only [decide_true,Bool.true_or,if_true]
  congr 1
  conv=>rhs;rw [<-sM r]
  refine dq λ p hp=>?_
  have:p.1≠k:=λ e=>hn.1 (e▸bo hp)
  simp [this]
 ·simp only [h,decide_false,Bool.false_or,if_false]
  split at⊢<;>simp
theorem wN{α:Type}(f:α->Value)(r:List (Int×α)):(mh f r).map (·.1)=r.map (·.1):=by
 unfold mh;exact ae bI rfl
theorem lJ{α:Type}(f:α->Value):∀(r:List (Int×α)) (l:Int) (v:α),kA r->dM (mh f r) l (f v)=mh f (ins r l v)
 | [],l,v,_=>rfl
 | (k,w)::r,l,v,hn=>by
  have hn' :kA r:=(aY.mp hn).2
  have ih:=lJ f r l v hn'
  refine ((ah (v9 (α:=α) _ _ _ _ _ (((ah (wN ..) hn):(k::(mh f r).map (·.1)).Nodup))) (ah ih ?_)):dM ((k,f w)::mh f r) l (f v)=_)
  refine (?_:_=mh f (if k=l then (k,v)::r else (k,w)::ins r l v))
  split at⊢<;>rfl
theorem vV{α:Type}(f:α->Value)(r:List (Int×α))(l:Int):kt (mh f r) l=mh f (del r l):=by
 unfold kt del mh
 exact ae nq rfl
theorem eV{α:Type}:∀(r:List (Int×α)) (l:Int) (v:α) (j:Int),lk (ins r l v) j=if j=l then some v else lk r j
 | [],l,v,j=>by
  refine (?_:(if l=j then some v else none)=if j=l then some v else none)
  by_cases h:l=j
  ·simp [h]
  ·simp [h,ik h]
 | (k,w)::r,l,v,j=>by
  have ih:=eV r l v j
  refine ah (I' ..) ?_
  by_cases h:k=l
  ·(try clear ih);subst h
   simp only [if_true]
   refine ae (uD ..) (ah (uD ..) ?_)
   by_cases h' :k=j
   ·simp [h']
   ·simp [h',ik h']
  ·simp only [h,if_false]
   refine ae (uD ..) (ah (uD ..) ?_)
   by_cases h' :k=j
   ·(try clear ih);subst h';simp [h]
   ·simp only [h',if_false];exact ih
theorem oD{α:Type}:∀(r:List (Int×α)) (l j:Int),lk (del r l) j=if j=l then none else lk r j
 | [],l,j=>(ite_self _).symm
 | (k,w)::r,l,j=>by
  have ih:=oD r l j
  unfold del at ih⊢
  refine ah cO ?_
  by_cases h:k=l
  ·subst h
   simp only [ne_eq,not_true_eq_false,decide_false,aV,if_false]
   refine ae ih ?_
   by_cases h' :j=k
   ·simp [h']
   ·have:¬k=j:=λ e=>h' e.symm
    simp [h',uD,this]
  ·simp only [ne_eq,h,not_false_eq_true,decide_true,if_true]
   refine ae (uD ..) (ah (uD ..) ?_)
   by_cases h' :k=j
   ·(try clear ih);subst h';simp [h]
   ·simp only [h',if_false];exact ih
theorem iO{α:Type}:∀(r:List (Int×α)) (l:Int) (v:α),kA r->kA (ins r l v)/\∀j,j∈(ins r l v).map (·.1)↔j=l\/j∈r.map (·.1)
 | [],l,v,_=>⟨iS _ _,λ j=>by refine (?_:j∈[l]↔j=l\/j∈[]);simp⟩
 | (k,w)::r,l,v,hn=>by
  refine aP (aY.mp hn) λ h1 h2=>(aP (iO r l v h2) λ i1 i2=>(ah (I' ..) ?_))
  by_cases h:k=l
  ·clear i1 i2;subst h
   simp only [if_true]
   exact ⟨hn,λ j=>by simp⟩
  ·simp only [h,if_false]
   refine ⟨aY.mpr ⟨λ q=>?_,i1⟩,λ j=>?_⟩
   ·rcases (i2 k).mp q with e | e
    ·exact h e
    ·exact h1 e
   ·refine ah aU (gk aM (gk (i2 j) (ah aU (gk aM ?_))))
    constructor
    ·rintro (h | h | h)<;>simp [h]
    ·rintro (h | h | h)<;>simp [h]
theorem wF{α:Type}(r:List (Int×α))(l:Int)(h:kA r):kA (del r l):=by
 unfold kA del at*
 exact h.sublist (vS _ o8)
theorem ii{α:Type}:∀(r:List (Int×α)) (l:Int),lk r l=none↔l∉r.map (·.1)
 | [],l=>⟨λ V h=>(nomatch h),λ V=>rfl⟩
 | (k,w)::r,l=>by
  have ih:=ii r l
  refine ah (uD ..) ?_
  by_cases h:k=l
  ·(try clear ih);subst h;simp
  ·have:¬l=k:=λ e=>h e.symm
   simp only [h,if_false,aU,aM,this,false_or];exact ih
theorem ix:∀(n:Nat) (l:List Int),l.Nodup->(∀k∈l,0<=k/\k<(n:Int))->l.length<=n
 | 0,l,_,h=>by
  cases l with
  | nil=>exact aw _
  | cons k r=>have:=h k (.head _);exact absurd (dy this.1 this.2) (by decide)
 | n+1,l,hn,h=>by
  have h1:=ix n (l.filter λ k=>decide (k≠(n:Int))) (hn.sublist o8) λ k hk=>by
   refine aP (bx.mp hk) λ a b=>?_
   have:=h k a
   have b' :=of_decide_eq_true b
   exact MN this b'
  have h2:l.length<=(l.filter λ k=>decide (k≠(n:Int))).length+1:=by
   clear h1 h
   induction l with
   | nil=>simp
   | cons k r ih=>
    refine aP (aY.mp hn) λ a b=>(ah cO ?_)
    by_cases e:k=(n:Int)
    ·(try clear hn);subst e
     have:r.filter (λ k=>decide (k≠(n:Int)))=r:=o9.mpr λ x hx=>by
      simp only [ne_eq,decide_eq_true_eq];exact λ q=>a (q▸hx)
     have h3:decide ((n:Int)≠(n:Int))=false:=by simp
     exact ah h3 (ah (if_neg c9) (ah this (aw _)))
    ·simp only [ne_eq,e,not_false_eq_true,decide_true,if_true,bM]
     have:=ih b
     simp only [ne_eq] at this
     exact bA this _
  exact ac h2 (bA h1 _)
noncomputable def Kv{α:Type}(r:List (Int×α)):Prop:=kA r/\∀k∈r.map (·.1),0<=k/\k<=1000
noncomputable def Kw{α:Type}(r:List (Int×α)):Prop:=kA r/\∀k∈r.map (·.1),-1000<=k/\k<=1000
theorem Kv.len{α:Type}{r:List (Int×α)}(h:Kv r):r.length<=100000:=by
 have:=ix 1001 _ h.1 λ k hk=>by have:=h.2 k hk;exact bt this.1 (dy this.2 (by decide))
 replace this:=(ag ..)▸this;exact ac this (af _ _)
theorem Kw.len{α:Type}{r:List (Int×α)}(h:Kw r):r.length<=100000:=by
 have:=ix 2001 ((r.map (·.1)).map λ k=>k+1000) ?_ λ k hk=>by
  refine aH (aF.mp hk) λ x hx UF=>?_;subst UF
  have:=h.2 x hx;exact MM this
 ·replace this:=(ag ..)▸(ag ..)▸this;exact ac this (af _ _)
 ·have hn:(r.map (·.1)).Nodup:=h.1
  unfold gp at hn⊢
  exact gk cE (hn.imp λ h e=>h (ML e))
theorem Kv.ins{α:Type}{r:List (Int×α)}(h:Kv r)(v:α)(h0:0<=l)(h1:l<=1000):Kv (ins r l v):=
 ⟨(iO r l v h.1).1,λ k hk=>by
  rcases ((iO r l v h.1).2 k).mp hk with e | e
  ·exact ah e ⟨h0,h1⟩
  ·exact h.2 k e⟩
theorem Kw.ins{α:Type}{r:List (Int×α)}(h:Kw r)(v:α)(h0:-1000<=l)(h1:l<=1000):Kw (ins r l v):=
 ⟨(iO r l v h.1).1,λ k hk=>by
  rcases ((iO r l v h.1).2 k).mp hk with e | e
  ·exact ah e ⟨h0,h1⟩
  ·exact h.2 k e⟩
theorem zX{α:Type}{r:List (Int×α)}(h:k∈(del r l).map (·.1)):k∈r.map (·.1):=by
 refine aH (aF.mp h) λ p hp UP=>?_;subst UP
 exact bo (bx.mp hp).1
theorem Kv.del{α:Type}{r:List (Int×α)}(h:Kv r)(l:Int):Kv (del r l):=⟨wF r l h.1,λ k hk=>h.2 k (zX hk)⟩
theorem Kw.del{α:Type}{r:List (Int×α)}(h:Kw r)(l:Int):Kw (del r l):=⟨wF r l h.1,λ k hk=>h.2 k (zX hk)⟩
structure nS(S:SS):Prop where
 v1:Kv S.known
 v2:Kv S.heights
 v3:Kv S.causes
 v4:Kv S.liked
 v5:Kv S.heats
 v6:Kw S.watch
 z7:S.row.length<=100000
 z8:S.begins.length<=100000
 z9:S.rows.length<=100000
 z10:S.log.length<=100000
 lit:∀l∈S.row,-1000<=l/\l<=1000
section
variable{S:SS}(h:nS S)
include h
theorem nS.k1:kA S.known:=h.v1.1
theorem nS.k2:kA S.heights:=h.v2.1
theorem nS.k3:kA S.causes:=h.v3.1
theorem nS.k4:kA S.liked:=h.v4.1
theorem nS.k5:kA S.heats:=h.v5.1
theorem nS.k6:kA S.watch:=h.v6.1
theorem nS.z1:S.known.length<=100000:=h.v1.len
theorem nS.z2:S.heights.length<=100000:=h.v2.len
theorem nS.z3:S.causes.length<=100000:=h.v3.len
theorem nS.z4:S.liked.length<=100000:=h.v4.len
theorem nS.z5:S.heats.length<=100000:=h.v5.len
theorem nS.z6:S.watch.length<=100000:=h.v6.len
end
structure Inv(A:Ad)(S:SS)(U:AH):Prop where
 at_:∀t o,fS A S t=some o->U.get (A t)=some o
 inj:∀t u,live S t->live S u->A t=A u->t=u
noncomputable def Off(A:Ad)(S:SS)(a:Addr):Prop:=∀t,live S t->A t≠a
section
variable{A A' A'' :Ad}{S S' ZX :SS}{U U' Ww U0:AH}{a b:Addr}{o o' :ba}{t u:tg}
theorem Inv.ne(I:Inv A S U)(h1:live S t)(h2:live S u)(h:t≠u):A t≠A u:=λ e=>h (I.inj t u h1 h2 e)
theorem Inv.has(I:Inv A S U)(h:live S t):∃o,U.get (A t)=some o:=aS ((eP (A:=A)).mp h) λ o h=>⟨o,I.at_ t o h⟩
theorem Inv.off(I:Inv A S U)(h:U.get a=none):Off A S a:=λ t ht e=>by refine aS (I.has ht) λ o q=>?_;replace q:=h▸e▸q;exact (bH q).elim
theorem Inv.ext(I:Inv A S U)(h:∀t,live S t->U'.get (A t)=U.get (A t)):Inv A S U' :=
 ⟨λ t o e=>ae (h t (eP.mpr ⟨o,e⟩)) (I.at_ t o e),I.inj⟩
theorem Inv.putx(I:Inv A S U)(h:Off A S a):Inv A S (U.put a o):=I.ext λ t ht=>AH.get_put_ne (h t ht)
theorem Inv.upd(I:Inv A S U)(t w:tg)(a:Addr)(e1:A' t=a)(e2:∀u,u≠t->A' u=A u)(Vl:Off A S a\/(a=A t/\live S t))(VX:t≠w)(hw:live S w)
  (h1:∀o,fS A' S' t=some o->U'.get a=some o) (h2:∀o,fS A' S' w=some o->U'.get (A w)=some o) (h3:∀b,b≠a->b≠A w->U'.get b=U.get b)
  (h4:∀u,u≠t->u≠w->(fS A' S' u=none\/fS A' S' u=fS A S u)):Inv A' S' U' :=by
 have lv:∀u,u≠t->live S' u->live S u:=λ u hu hl=>by
  by_cases e:u=w
  ·exact ah e hw
  ·refine aS ((eP (A:=A')).mp hl) λ o q=>?_
   rcases h4 u hu e with h | h
   ·replace q:=h▸q;exact (bH q).elim
   ·exact (eP (A:=A)).mpr ⟨o,h▸q⟩
 have ne:∀u,u≠t->live S u->A u≠a:=λ u hu hl=>by
  rcases Vl with h | ⟨h,h'⟩
  ·exact h u hl
  ·exact ah h (I.ne hl h' hu)
 refine ⟨λ u o q=>?_,λ u v hu hv e=>?_⟩
 ·by_cases hu:u=t
  ·clear e2 h4 Vl VX lv ne;subst hu;exact ah e1 (h1 o q)
  ·refine ah (e2 u hu) ?_
   by_cases hw' :u=w
   ·clear h3 h4 VX hw;subst hw';exact h2 o q
   ·have hl:=lv u hu (eP.mpr ⟨o,q⟩)
    refine ae (h3 _ (ne u hu hl) (I.ne hl hw hw')) ?_
    rcases h4 u hu hw' with h | h
    ·replace q:=h▸q;exact (bH q).elim
    ·exact I.at_ u o (h▸q)
 ·by_cases h1:u=t<;>by_cases h2:v=t
  ·exact ae h1 (ah h2 rfl)
  ·clear h4 Vl VX;subst h1;replace e:=e2 v h2▸e1▸e;exact absurd e.symm (ne v h2 (lv v h2 hv))
  ·clear h4 Vl VX;subst h2;replace e:=e2 u h1▸e1▸e;exact absurd e (ne u h1 (lv u h1 hu))
  ·replace e:=e2 v h2▸e2 u h1▸e;exact I.inj u v (lv u h1 hu) (lv v h2 hv) e
theorem Inv.put(I:Inv A S U)(w:tg)(hw:live S w)(h2:fS A S' w=some o)(h4:∀u,u≠w->(fS A S' u=none\/fS A S' u=fS A S u)):Inv A S' (U.put (A w) o):=by
 have lv:∀u,live S' u->live S u:=λ u hl=>by
  by_cases e:u=w
  ·exact ah e hw
  ·refine aS ((eP (A:=A)).mp hl) λ o q=>?_
   rcases h4 u e with h | h
   ·replace q:=h▸q;exact (bH q).elim
   ·exact (eP (A:=A)).mpr ⟨o,h▸q⟩
 refine ⟨λ u o' q=>?_,λ u v hu hv e=>I.inj u v (lv u hu) (lv v hv) e⟩
 by_cases e:u=w
 ·clear h4 hw;subst e;replace q:=h2▸q;(try clear h2);have UQ:=sI q;clear q;subst UQ;exact AH.get_put_self _ _ _
 ·have hl:=lv u (eP.mpr ⟨o',q⟩)
  refine ae (AH.get_put_ne (I.ne hl hw e)) ?_
  rcases h4 u e with h | h
  ·replace q:=h▸q;exact (bH q).elim
  ·exact I.at_ u o' (h▸q)
structure St(me:Addr)(A:Ad)(S:SS)(U:AH)(E:List (Addr×ba)):Prop where
 self:A .self=me
 inv:Inv A S U
 fit:nS S
 xt:∀p∈E,Off A S p.1/\U.get p.1=some p.2
 nd:(E.map (·.1)).Nodup
variable{me:Addr}{E:List (Addr×ba)}{p p0 p1 p2 p3 p4:Addr×ba}
theorem St.lv(T:St me A S U E)(h4:∀u,u≠t->(fS A S' u=none\/fS A S' u=fS A S u))(hw:live S t):∀u,live S' u->live S u:=λ u hl=>by
 by_cases e:u=t
 ·exact ah e hw
 ·refine aS ((eP (A:=A)).mp hl) λ o q=>?_
  rcases h4 u e with h | h
  ·replace q:=h▸q;exact (bH q).elim
  ·exact (eP (A:=A)).mpr ⟨o,h▸q⟩
theorem St.at_(T:St me A S U E)(h:(a,o)∈E):U.get a=some o:=(T.xt _ h).2
theorem St.has(T:St me A S U E)(t:tg)(h:fS A S t=some o):U.get (A t)=some o:=T.inv.at_ t o h
theorem St.put(T:St me A S U E)(w:tg)(hw:live S w)(h2:fS A S' w=some o)(h4:∀u,u≠w->(fS A S' u=none\/fS A S' u=fS A S u))(Z:nS S'):St me A S' (U.put (A w) o) E:=
 ⟨T.self,T.inv.put w hw h2 h4,Z,λ p hp=>aP (T.xt p hp) λ h1 h3=>⟨λ u hu=>h1 u (T.lv h4 hw u hu),ah (AH.get_put_ne (ik (h1 w hw))) h3⟩,T.nd⟩
theorem St.upd(T:St me A S U ((a,o)::E))(t w:tg)(e1:A' t=a)(e2:∀u,u≠t->A' u=A u)(ht:∀q,fS A' S' t=some q->q=o)(VX:t≠w)(hts:tg.self≠t)(hw:live S w)
  (h2:fS A' S' w=some o') (h4:∀u,u≠t->u≠w->(fS A' S' u=none\/fS A' S' u=fS A S u)) (Z:nS S'):St me A' S' (U.put (A w) o') E:=by
 refine aP (T.xt _ (.head _)) λ Vl ha=>?_
 have haw:a≠A w:=λ e=>Vl w hw e.symm
 refine ⟨(e2 .self hts).symm▸T.self,T.inv.upd t w a e1 e2 (.inl Vl) VX hw (λ q hq=>?_) (λ q hq=>?_) (λ b h1 h2=>AH.get_put_ne h2) h4,Z,λ p hp=>?_,(aY.mp T.nd).2⟩
 ·exact ae (AH.get_put_ne haw) (ah (ht q hq) ha)
 ·replace hq:=h2▸hq;(try clear h2);have UT:=sI hq;clear hq;subst UT;exact AH.get_put_self _ _ _
 ·clear ht hts VX;refine aP (T.xt p (.tail _ hp)) λ h1 h3=>⟨λ u hu=>?_,ah (AH.get_put_ne (ik (h1 w hw))) h3⟩
  by_cases e:u=t
  ·clear e2 h4;subst e;exact ah e1 (λ e=>(aY.mp T.nd).1 (aF.mpr ⟨p,hp,e.symm⟩))
  ·refine ah (e2 u e) (h1 u ?_)
   by_cases e' :u=w
   ·exact ah e' hw
   ·refine aS ((eP (A:=A')).mp hu) λ q hq=>?_
    rcases h4 u e e' with h | h
    ·replace hq:=h▸hq;exact (bH hq).elim
    ·exact (eP (A:=A)).mpr ⟨q,h▸hq⟩
theorem St.fresh(T:St me A S U E)(h:U.get a=none):St me A S (U.put a o) ((a,o)::E):=by
 have hne:∀p∈E,p.1≠a:=λ p hp e=>by have:=(T.xt p hp).2;replace this:=h▸e▸this;exact (bH this).elim
 refine ⟨T.self,T.inv.putx (T.inv.off h),T.fit,λ p hp=>?_,aY.mpr ⟨λ q=>?_,T.nd⟩⟩
 ·rcases aM.mp hp with rfl | hp
  ·exact ⟨T.inv.off h,AH.get_put_self _ _ _⟩
  ·exact ⟨(T.xt p hp).1,ae (AH.get_put_ne (hne p hp)) ((T.xt p hp).2)⟩
 ·exact aH (aF.mp q) λ p hp e=>(hne p hp e)
theorem St.drop(T:St me A S U (p::E)):St me A S U E:=⟨T.self,T.inv,T.fit,λ q hq=>T.xt q (.tail _ hq),(aY.mp T.nd).2⟩
inductive jP(a:Addr)(o o' :ba):List (Addr×ba)->List (Addr×ba)->Prop
 | here {E:List (Addr×ba)}:jP a o o' ((a,o)::E) ((a,o')::E)
 | there {p:Addr×ba} {E E' :List (Addr×ba)}:jP a o o' E E' ->jP a o o' (p::E) (p::E')
theorem jP.mem(h:jP a o o' E E'):(a,o)∈E:=by
 induction h with
 | here=>exact .head _
 | there _ ih=>exact .tail _ ih
theorem jP.keys(h:jP a o o' E E'):E'.map (·.1)=E.map (·.1):=by
 induction h with
 | here=>rfl
 | there _ ih=>simp [ih]
theorem jP.of(h:jP a o o' E E')(hn:(E.map (·.1)).Nodup):∀p∈E',p=(a,o')\/(p∈E/\p.1≠a):=by
 induction h with
 | here=>
  intro p hp
  rcases aM.mp hp with rfl | hp
  ·exact .inl rfl
  ·exact .inr ⟨.tail _ hp,λ e=>(aY.mp hn).1 (aF.mpr ⟨p,hp,e⟩)⟩
 | @there p0 E E' ht ih=>
  intro p hp
  rcases aM.mp hp with rfl | hp
  ·exact .inr ⟨.head _,λ e=>(aY.mp hn).1 (aF.mpr ⟨_,ht.mem,e.symm⟩)⟩
  ·rcases ih (aY.mp hn).2 p hp with h | ⟨h,h'⟩
   ·exact .inl h
   ·exact .inr ⟨.tail _ h,h'⟩
theorem St.turn(T:St me A S U E)(h:jP a o o' E E'):St me A S (U.put a o') E' :=by
 have Vl:=(T.xt _ h.mem).1
 refine ⟨T.self,T.inv.putx Vl,T.fit,λ p hp=>?_,h.keys▸T.nd⟩
 rcases h.of T.nd p hp with rfl | ⟨h1,h2⟩
 ·exact ⟨Vl,AH.get_put_self _ _ _⟩
 ·exact ⟨(T.xt p h1).1,ae (AH.get_put_ne h2) ((T.xt p h1).2)⟩
theorem St.subl(T:St me A S U E)(h:E'.Sublist E):St me A S U E' :=⟨T.self,T.inv,T.fit,λ p hp=>T.xt p (h.subset hp),T.nd.sublist (h.map _)⟩
theorem St.perm(T:St me A S U E)(h:E.Perm E'):St me A S U E' :=⟨T.self,T.inv,T.fit,λ p hp=>T.xt p (h.mem_iff.mpr hp),(h.map _).nodup_iff.mp T.nd⟩
end
end
section
section
variable{C:Cx}{F:dD}{n:Nat}{m:Str->Option Value}{U U' :AH}{Z:List (Addr×Obj)}{s s' :aO}
theorem J6{Q:Value->AH->Prop}(hi:i.natAbs<2^64)(h:Q (vi (i*j)) U):ji C F n (fB .Mult) (vi i) (vi j) m U (qe Q):=λ a b ha hb O Z s W R K=>lB ha λ t=>lB hb λ u=>(PySem.P.mul_int (K _ _ _ (R.toks O) h) (Uk (intBits_le hi)))
theorem J7{Q:Value->AH->Prop}(hj:j≠0)(h:Q (vi (i.fmod j)) U):ji C F n (fB .Mod) (vi i) (vi j) m U (qe Q):=λ a b ha hb O Z s W R K=>lB ha λ t=>lB hb λ u=>(mod_int' hj (K _ _ _ (R.toks O) h))
theorem G1{Q:Value->AH->Prop}(hj:j≠0)(hz:j.natAbs<1073741824)(h:Q (vi (i.fdiv j)) U):ji C F n (fB .FloorDiv) (vi i) (vi j) m U (qe Q):=λ a b ha hb O Z s W R K=>lB ha λ t=>lB hb λ u=>(floordiv_int hj (K _ _ _ (R.toks O) h) (.inl (PyProof.noPylong_small hz)))
theorem J3{Q:Value->AH->Prop}(hi:i.natAbs<2^64)(h0:0<=j)(h1:j<=1000000)(h:Q (vi (i^j.toNat)) U):ji C F n (fB .Pow) (vi i) (vi j) m U (qe Q):=λ a b ha hb O Z s W R K=>lB ha λ t=>lB hb λ u=>(pow_int_small h0 h1 hi (K _ _ _ (R.toks O) h))
noncomputable def WP(C:Cx)(F:dD)(n:Nat)(x:Option Expr)(m:Str->Option Value)(U:AH)(Q:Option Int->AH->Prop):Prop:=match x with
 | none=>Q none U
 | some e=>WE C F n e m U λ v U' =>∃i,v=vi i/\Q (some i) U'
theorem WP.run{Q:Option Int->AH->Prop}(h:WP C F n x m U Q)(O:F.Ok C n)(R:cQ C F Z s m U):
  br (bR C.prog C.w) F.A (evalPart x F.env) (λ v s' =>∃U' i,cQ C F Z s' m U' /\IsPart v i/\Q i U') (λ V V=>False) s:=by
 cases x with
 | none=>exact aD ⟨U,none,R,.none,h⟩
 | some e=>exact h O Z s _ R λ v s₁ U1 R₁ ⟨i,e,q⟩=>lB e λ t=>(jG U1 (some i) R₁ (.int i t) q)
noncomputable def lL(xs:List Value)(lo hi st:Option Int):List Value:=(n0 xs.toArray lo hi st).toList
theorem zP(vs:List Value)(lo hi st:Option Int):(n0 vs.toArray lo hi st).toList.map er=lL (vs.map er) lo hi st:=by
 unfold lL n0
 simp only [bc,ag,CP]
 refine congrFun (congrArg List.filterMap (funext λ i=>?_)) _
 simp
theorem pick_from(xs:List Value)(a:Nat):lL xs (some a) none none=xs.drop a:=by
 unfold lL;exact ah (slicePick_from' ..) rfl
theorem jX(xs:List Value)(b:Nat):lL xs none (some b) none=xs.take b:=by
 unfold lL;exact ah (slicePick_upto' ..) rfl
theorem DH(xs:List Value):lL xs none none (some (-1))=xs.reverse:=by
 unfold lL;exact ah (krv_pick ..) rfl
theorem OH{lo hi st:Option Expr}{Q:Value->AH->Prop}(hs:AL (.Slice lo hi st p))
  (h:WE C F n value m U λ o U1=>∃a,o=.ref a/\WP C F n lo m U1 λ l Uq=>WP C F n hi m Uq λ u Ux=>WP C F n st m Ux λ c U4=>c≠some 0/\∃xs,U4.rd a=some (.list xs)/\xs.length<=10000000/\
   ∀D,U4.get D=none->Q (.ref D) (U4.put D (.list (lL xs l u c)))):WE C F n (.Subscript value (.Slice lo hi st p) pos) m U Q:=λ O Z s W R K=>
 LF (h O Z s _ R λ o s₁ U1 R₁ ⟨a,e,Ut⟩=>by
  refine lA e (T8 (dG (Ut.run O R₁) (λ l s₂ ⟨Uq,li,R₂,pl,UL⟩=>dG (UL.run O R₂) (λ u s₃ ⟨Ux,ui,R₃,pu,h₃⟩=>dG (h₃.run O R₃) (λ c s₄ UO=>(jo UO λ U4 ci R₄ pc h0 Uv=>?_)) uw) uw) uw));clear UO;refine cX Uv λ xs ha hz VE=>?_;clear Uv
  refine cu (R₄.at ha) λ vs k hv hx=>?_
  have hlen:=eK hx
  have hl:s₄.heap.IsList a vs.toArray:=⟨_,hv,rfl,_,rfl⟩
  have R₅:cQ C F Z {s₄ with heap:=s₄.heap.push {cls:=.type "slice",data:=.fields #[l,u,c]}} m U4:=R₄.grow O ⟨R₄.core.gens,R₄.core.os,R₄.core.dr⟩ λ b o e=>bb _ e
  have hl' :(s₄.heap.push {cls:=.type "slice",data:=.fields #[l,u,c]}).IsList a vs.toArray:=⟨_,bb _ hv,rfl,_,rfl⟩
  refine aS (hs (.ref a) (.ref s₄.heap.objs.size)) λ VC e=>(RE (T:="list") (s:={s₄ with heap:=s₄.heap.push {cls:=.type "slice",data:=.fields #[l,u,c]}}) hl'.typeIs tj.lookup (Ck hl' (sS _ _ _ _) pl pu pc h0 (K _ _ _ ((R₅.push (tk:=s₄.toks) O (o:={cls:=.type "list",data:=.seq (n0 vs.toArray li ui ci)}) (ao:=.list (lL xs li ui ci)) ?_).1) (VE _ (R₅.fresh R₅.size_none))) (ah bc (ah b_ (ac (aC hlen) (ac hz (af _ _)))))) e)
  refine ib ((n0 vs.toArray li ui ci).toList) 0 ?_ ?_
  ·exact ah jF (bp _ rfl)
  ·exact ae (zP ..) (ah hx rfl))
theorem Fm{h:Heap}{vs:List Value}{c:Nat}(hv:h.get? a=some (listOf vs.toArray c))(f:Array Value->Array Value){ws xs:List Value}(e:f vs.toArray=ws.toArray)(ex:ws.map er=xs):At C (h.update a (fO f)) a (.list xs):=by
 have:=zo hv f
 replace this:=e▸this
 exact ib ws _ this ex
theorem HR{Q:Value->AH->Prop}(ha:U.get a=some (.list (xs++[v])))(hz:xs.length<=10000000)(h:Q v (U.put a (.list xs))):WB C F n (.builtin "list.pop") [.ref a] m U (qe Q):=λ Us e O Z s W R K=>by
 refine aR e (cu ((R.sg _ _ ha).2) λ vs k hv hx=>?_)
 have hlen:=eK hx
 obtain ⟨ws,y,rfl⟩:∃ws y,vs=ws++[y]:=⟨vs.dropLast,vs.getLast (by intro q;clear hv hx;subst q;simp at hlen),(sR _).symm⟩
 replace hx:=mB▸aU▸aE▸hx
 refine aP (List.append_inj' hx rfl) λ Xj XB=>?_
 have hy:er y=v:=by simpa using XB
 refine call_meets vM ⟨_,hv,rfl⟩ PySem.F.entry_list_pop (PySem.F.args_list_pop_1 _) (L8 a _ k y ?_ ?_)
  ⟨hv,(K _ _ _ (R.set (s' :={s with heap:=s.heap.update a (fO λ xs=>xs.eraseIdxIfInBounds ((ws++[y]).toArray.size-1))}) O ⟨R.core.gens,R.core.os,R.core.dr⟩ ha (λ b o nb e=>(kr _ _ _ _ nb).trans e) (o:=.list xs) (Fm hv _ (ws:=ws) ?_ Xj)) (((ah hy h):Q (er y) _)))⟩
 ·simp
 ·refine ah bc (ah b_ ?_);simp at hlen⊢;exact ac (aC hlen) (ac hz (af _ _))
 ·have hk:(ws++[y]).toArray.size-1=ws.length:=ah bc (ah aA rfl)
  exact ((ah hk (ae (kl_erase ..) (ah (cw ..) rfl))):(ws++[y]).toArray.eraseIdxIfInBounds ((ws++[y]).toArray.size-1)=ws.toArray)
theorem B8{a b:Addr}{Q:Value->AH->Prop}(ha:U.get a=some (.list xs))(hb:U.rd b=some (.list ys))(hz:xs.length+ys.length<=10000000)(h:Q .none (U.put a (.list (xs++ys)))):WB C F n (.builtin "list.extend") [.ref a,.ref b] m U (qe Q):=λ Us e O Z s W R K=>by
 refine Ro e (cu ((R.sg _ _ ha).2) λ vs k hv hx=>(cu (R.at hb) λ ws k' hw hy=>?_))
 have hlen:=eK hx
 have hlen' :=eK hy
 refine call_meets tu ⟨_,hv,rfl⟩ PySem.F.entry_list_extend (PySem.F.args_list_extend_2 _ _) (L9 a vs.toArray k b ws.toArray k' ?_ ?_ ?_)
  ⟨hv,hw,(K _ _ _ (R.set O R.core.upd ha (λ b o nb e=>(kr _ _ _ _ nb).trans e) (o:=.list (xs++ys)) (Fm hv _ (ws:=vs++ws) ?_ (ae aE (ah hx (ah hy rfl))))) h)⟩
 ·simp only [dL,not_and,Bool.not_eq_true]
  intro _
  simp only [bc]
  unfold PJ
  refine gk decide_eq_false_iff_not (ah b_ ?_)
  exact Tj hz hlen hlen'
 ·exact ah bc (ah b_ (ac (xa hlen (ax _ _)) (ac hz (af _ _))))
 ·refine ah bc (ah bc (ah b_ ?_));exact Ti hz hlen hlen'
 ·simp
theorem cQ.viaNews(O:F.Ok C n)(R:cQ C F Z s m U):∃mL,Fr F.h₀ F.L s.heap mL/\qC F.h₀ F.L s.heap (led F Z U s.heap)/\
  ∀s' D ob ao,oP C s' ->Fr F.h₀ F.L s'.heap mL->qC F.h₀ F.L s'.heap ((D,ob)::led F Z U s.heap)->(∀p∈led F Z U s.heap,p.1<D)->3<D->At C s'.heap D ao->cQ C F Z s' m (U.put D ao)/\U.get D=none:=by
 refine aS R.fr λ mL FR=>(fV mL FR R.news (λ s' D ob ao c' F' N' l1 h3 hA=>?_))
 have hn:U.get D=none:=by
  cases q:U.get D with
  | none=>rfl
  | some o=>
   refine aP (R.sg _ _ q) λ Uy V=>(aP Uy λ UC V=>?_);clear Uy;obtain ⟨UN,x⟩:=UC
   exact absurd (l1 (D,UN) (ak _ (bX.mpr ⟨AH.dom' q,x⟩))) (cC _)
 refine ⟨R.back O FR c' F' (λ V=>False) (λ V h=>h.elim) (λ p hp V=>(N' p (.tail _ hp)).1) λ b o e=>?_,hn⟩
 replace e:=(AH.get_put ..)▸e
 split at e
 ·rename_i q;(try clear hn);subst q;have UB:=sI e;clear e;subst UB
  exact ck (N' (b,ob) (.head _)) λ x y z=>(.inr ⟨.inr ⟨λ p hp=>bP (l1 p hp),h3⟩,⟨⟨_,x⟩,y,z⟩,hA⟩)
 ·exact .inl ⟨e,id⟩
theorem cQ.ledLt(R:cQ C F Z s m U):∀p∈led F Z U s.heap,p.1<s.heap.objs.size:=λ p hp=>bT (R.news p hp).1
theorem G4{Q:Value->AH->Prop}(ha:U.rd a=some (.list xs))(hb:U.rd b=some (.list ys))(hz:xs.length+ys.length<=10000000)(h:∀D,U.get D=none->Q (.ref D) (U.put D (.list (xs++ys)))):
  ji C F n (fB .Add) (.ref a) (.ref b) m U (qe Q):=λ a' b' e1 e2 O Z s W R K=>by
 refine lA e1 (lA e2 (cu (R.at ha) λ vs k hv hx=>(cu (R.at hb) λ ws k' hw hy=>?_)))
 have hlen:=eK hx
 have hlen' :=eK hy
 refine cX (R.viaNews O) λ mL FR N back=>(add_arrays (its:=vs.toArray) (its2:=ws.toArray) FR N ⟨_,hv,rfl,_,rfl⟩ ⟨_,hw,rfl,_,rfl⟩ (λ h' F' N' =>?_) (by refine ah bc (ah bc (ah b_ ?_));exact Sm hz hlen hlen'))
 exact aP (back {s with heap:=h' } _ _ (.list (xs++ys)) ⟨R.core.gens,R.core.os,R.core.dr⟩ F' N' R.ledLt (R.top O) ⟨vs++ws,0,(N' _ (.head _)).1,ae aE (ah hx (ah hy rfl))⟩) λ R' hn=>(K _ _ _ R' (h _ hn))
theorem AZ{Q:Value->AH->Prop}(hk:k<=10000000)(h:∀D,U.get D=none->Q (.ref D) (U.put D (.rng 0 k))):WB C F n (.type "range") [vi k] m U (qe Q):=λ Us e O Z s W R K=>by
 refine aI e λ t=>(call_range_1 (K _ _ _ ((R.push O (ao:=.rng 0 k) (Jk k _ _ _ (JI ..) (ae (SE ..) ?_) (small_one (by decide) (by decide) (cM (by decide) (bG _)) (dy (bU.mpr hk) (by decide))))).1) (h _ (R.fresh R.size_none))));refine eC (λ V=>?_) λ V=>?_<;>lia
theorem AY{Q:Value->AH->Prop}(ha:-10000000<=a)(Ws :a<=10000000)(hb:-10000000<=b)(UU :b<=10000000)(h:∀D,U.get D=none->Q (.ref D) (U.put D (.rng a (b-a).toNat))):WB C F n (.type "range") [vi a,vi b] m U (qe Q):=λ Us e O Z s W R K=>by
 refine Tn e λ t u=>(call_range_2 (K _ _ _ ((R.push O (ao:=.rng a (b-a).toNat) (Jk b _ _ _ (JI ..) (ae (SE ..) ?_) (small_one (cM (by decide) ha) (dy Ws (by decide)) (cM (by decide) hb) (dy UU (by decide))))).1) (h _ (R.fresh R.size_none))));refine eC (λ V=>?_) λ V=>?_<;>lia
theorem tD{Q:Value->AH->Prop}(ha:U.rd a=some (.list xs))(hz:xs.length<=10000000)(h:∀D,U.get D=none->Q (.ref D) (U.put D (.tup xs))):WB C F n (.type "tuple") [.ref a] m U (qe Q):=λ Us e O Z s W R K=>by
 refine aR e (cu (R.at ha) λ vs k hv hx=>?_)
 have hlen:=eK hx
 refine call_tuple_list (items:=vs.toArray) ⟨_,hv,rfl,_,rfl⟩ (λ h' hk=>?_) (ah bc (ah b_ (ac (aC hlen) (ac hz (af _ _)))))
 have R₁:cQ C F Z {s with heap:=h' } m U:=R.grow O ⟨R.core.gens,R.core.os,R.core.dr⟩ hk
 exact (K _ _ _ ((R₁.push (tk:=s.toks) O (o:=tupO vs.toArray 0) (Fo hx)).1) (h _ (R₁.fresh R₁.size_none)))
theorem vZ{Q:Value->AH->Prop}(ha:U.rd a=some (.list xs)\/U.rd a=some (.tup xs))(hz:xs.length<=10000000)(h:∀D,U.get D=none->Q (.ref D) (U.put D (.list xs))):WB C F n (.type "list") [.ref a] m U (qe Q):=λ Us e O Z s W R K=>by
 refine aR e ?_
 have key:∃(vs:List Value) (T:String) (o:Obj) (k:Nat),(T="list"\/T="tuple")/\s.heap.get? a=some o/\o.cls=.type T/\o.data=.seq vs.toArray k/\vs.map er=xs:=by
  rcases ha with ha | ha
  ·exact cu (R.at ha) λ vs k hv hx=>(Jj vs ("list") _ k (.inl rfl) hv rfl rfl hx)
  ·exact cu (R.at ha) λ vs k hv hx=>(Jj vs ("tuple") _ k (.inr rfl) hv rfl rfl hx)
 refine Jm key λ vs T o k hT ho hc hd hx=>?_;clear key
 have hlen:=eK hx
 refine call_list_seq a hT ho hc hd (λ h' c' hk hl=>(K _ _ _ (R.new (s' :={s with heap:=h' }) O ⟨R.core.gens,R.core.os,R.core.dr⟩ hk R.size_none (R.top O) (o:=.list xs) ⟨vs,c',hl,hx⟩) (h _ (R.fresh R.size_none)))) (ah bc (ah b_ (ac (aC hlen) (ac hz (af _ _)))))
end
end
section
section
variable{C:Cx}{F:dD}{n:Nat}{m:Str->Option Value}{U U' :AH}{Z Y Y' :List (Addr×Obj)}{s s' :aO}
noncomputable def FS(C:Cx)(F:dD)(n:Nat):List Expr->List Value->(Str->Option Value)->AH->((Str->Option Value)->AH->Prop)->Prop
 | t::ts,v::vs,m,U,Q=>Jv C F n t v m U λ m1 U1=>FS C F n ts vs m1 U1 Q
 | _,_,m,U,Q=>Q m U
theorem lw{Q:(Str->Option Value)->AH->Prop}(h:Jv C F n t v m U λ m1 U1=>FS C F n ts vs m1 U1 Q):FS C F n (t::ts) (v::vs) m U Q:=h
theorem AJ{Q:(Str->Option Value)->AH->Prop}(h:Q m U):FS C F n [] [] m U Q:=h
theorem FS.run(O:F.Ok C n):∀(ts:List Expr) (vs:List Value) {m:Str->Option Value} {U:AH} {s:aO} {Q:(Str->Option Value)->AH->Prop} {W:Unit->aO->Prop},vs.length=ts.length->FS C F n ts (vs.map er) m U Q->cQ C F Z s m U->(∀s m U,cQ C F Z s m U->Q m U->W () s)->
  br (bR C.prog C.w) F.A (SH (ts.map λ t=>nj t F.env) vs) W (λ V V=>False) s:=by
 intro ts
 induction ts with
 | nil=>
  intro vs m U s Q W hl h R K
  obtain rfl:=dR hl
  exact Cn (K _ _ _ R h)
 | cons t ts ih=>
  intro vs m U s Q W hl h R K
  refine fM (List.exists_cons_of_length_eq_add_one hl) λ v vs Uv=>?_;subst Uv
  exact ng (h v rfl O Z s _ R λ s₁ m1 U1 R₁ Ut=>ih vs (jI hl) Ut R₁ K)
theorem Ix{Q:(Str->Option Value)->AH->Prop}(h:WE C F n o m U λ ov U1=>WE C F n i m U1 λ iv Uq=>WI C F n ov iv v m Uq λ Ux=>Q m Ux):Jv C F n (.Subscript o i p) v m U Q:=λ v' e O Z s W R K=>ah (assign_Subscript ..) (aj (cR (h O Z s _ R λ ov s₁ U1 R₁ Ut=>aj (cR (Ut O Z s₁ _ R₁ λ iv s₂ Uq R₂ UL=>(aj (eR (aj (cR (UL ov iv v' rfl rfl e O Z s₂ _ R₂ λ V s₃ Ux R₃ h₃=>SA (K _ _ _ R₃ h₃)))))))))))
theorem Am{α:Type}(UX:List Expr)(f:Expr->α):(UX.map λ t=>(false,f t)).findIdx? (·.1)=none:=by
 refine gk List.findIdx?_eq_none_iff ?_
 intro x hx
 refine aH (aF.mp hx) λ t V Uy=>?_;subst Uy
 rfl
theorem FU{Q:ig->(Str->Option Value)->AH->Prop}(hs:SC [.Tuple UX k tp] e pos.line F.env=eu false)(hw:nh [.Tuple UX k tp] e F.env=eu none)
  (he:lX UX F.env=UX.map λ t=>(false,nj t F.env))
  (h:WE C F n e m U λ v U1=>∃a xs,v=.ref a/\U1.rd a=some (.tup xs)/\xs.length=UX.length/\FS C F n UX xs m U1 λ m' U' =>Q .next m' U'):W1 C F n (.Assign [.Tuple UX k tp] e pos) m U Q:=λ O Z s W R K=>by
 refine Assign_Tuple (h O Z s _ R λ v s₁ U1 R₁ UO=>(jo UO λ a xs e1 ha hl Ut=>?_)) hs hw;clear UO
 refine lA e1 (cu (R₁.at ha) λ vs c hv hx=>?_)
 have hlen:=eK hx
 refine Lx (items:=vs.toArray) O.handled ⟨_,hv,rfl,_,rfl⟩ (by rewrite [he,ag,bc];exact a_ (ac (xb hl (aw _)) (xb hlen (aw _))) (ac (aC hlen) (aC hl))) (ah he (Am UX _)) λ h' hk=>?_
 have R₂:cQ C F Z {s₁ with heap:=h' } m U1:=R₁.grow O ⟨R₁.core.gens,R₁.core.os,R₁.core.dr⟩ λ b o e=>hk b o (bP (bT e)) e
 have e2:(lX UX F.env).map (λ x=>x.2)=UX.map λ t=>nj t F.env:=ah he (ae bI rfl)
 exact ah e2 (FS.run O UX vs (a_ (ac (aC hlen) (aC hl)) (ac (xb hl (aw _)) (xb hlen (aw _)))) (hx▸Ut) R₂ λ s m U R h=>K _ _ _ _ R h)
theorem AK{Q:ig->(Str->Option Value)->AH->Prop}(hs:SC [.Tuple UX k tp] e pos.line F.env=eu false)(hw:nh [.Tuple UX k tp] e F.env=eu (some [x,y]))
  (Sx:Stores F x) (Sy:Stores F y)
  (h:WE C F n e m U λ v U1=>∃a vx vy,v=.ref a/\U1.rd a=some (.tup [vx,vy])/\Q .next (fA (fA m y vy) x vx) U1):W1 C F n (.Assign [.Tuple UX k tp] e pos) m U Q:=λ O Z s W R K=>by
 refine Assign_Tuple_swapped (h O Z s _ R λ v s₁ U1 R₁ UO=>(pG UO λ a vx vy e1 ha Ut=>?_)) hs hw;clear UO
 refine lA e1 (cu (R₁.at ha) λ vs c hv hx=>?_)
 (try clear ha);refine gJ (AG hx) λ a' b' UB UC UF=>?_;subst UB;subst UC;subst UF
 refine wpAny_unpackItems_tuple (items:=#[a',b']) O.handled ⟨_,hv,rfl,_,rfl⟩ λ h' hk=>?_
 have R₂:cQ C F Z {s₁ with heap:=h' } m U1:=R₁.grow O ⟨R₁.core.gens,R₁.core.os,R₁.core.dr⟩ λ b o e=>hk b o (bP (bT e)) e
 refine ((ng (RC (i7 O R₂ Sy λ s₃ R₃=>?_))):br _ _ (SH [bindName F.env y,bindName F.env x] [b',a']) _ _ _)
 exact ng (RC (i7 O R₃ Sx λ s₄ R₄=>Cn (K _ _ _ _ R₄ Ut)))
end
end
section
theorem Bp(p:iu):vm (KK p) 220:=by constructor<;>rfl
noncomputable def sx:List Str:=["known","heights","causes","row","begins","seen","liked","rows","watching","heats","gain","log","is_refuted","blamed","clashes","conflict_limit"]
noncomputable def uz:List (Str×Addr):=[("says",83),("let",90),("back_to",97),("add_clause",123),("refute",130),("keep",137),("spread",144),("has_moved",151),("warm",156),("lesson",163),("height_of",170),("learn",177),("blame",182),("hottest",189),("decide",196),("solve",203),("value",210),("failed",217)]
noncomputable def Em:List (Str×Addr):=[("ordered",62),("_law_draw",229),("_law_literals",236),("_law_holds",243),("_law_worlds",248),("_law_choice",253),("_law_barring",258),("_law_asked",263)]
noncomputable def HU:List (Str×Value):=[("abs",.builtin "abs"),("len",.builtin "len"),("sorted",.builtin "sorted"),("any",.builtin "any"),("all",.builtin "all"),("range",.type "range"),("list",.type "list"),("tuple",.type "tuple"),("set",.type "set"),("zip",.type "zip")]
theorem qO{α β:Type}{f g:α->β}{l:List α}{x:α}(h:l.map f=l.map g)(hx:x∈l):f x=g x:=Gh.mp h x hx
theorem Sn(p:iu){x:Str}(h:x∈sx):ni (KK p) (.ref 220) x=some none:=qO (f:=ni (KK p) (.ref 220)) (g:=λ V=>some none) (by kernel_rfl) h
theorem RX(p:iu){x:Str}(h:x∈sx):F6 (KK p) 220 x=some none:=qO (f:=F6 (KK p) 220) (g:=λ V=>some none) (by kernel_rfl) h
theorem Sh(p:iu){q:Str×Addr}(h:q∈uz):xm (KK p) 220 q.1 q.2:=
 ⟨qO (f:=λ q=>ni (KK p) (.ref 220) q.1) (g:=λ q=>some (some (.ref q.2))) (by kernel_rfl) h,qO (f:=λ q=>isFn (KK p) (.ref q.2)) (g:=λ V=>true) (by kernel_rfl) h,qO (f:=λ q=>F9 (KK p) (.ref q.2)) (g:=λ V=>true) (by kernel_rfl) h⟩
theorem Tf(p:iu){q:Str×Addr}(h:q∈Em):pY (KK p) du q.1=some (some (.ref q.2)):=qO (f:=λ q=>pY (KK p) du q.1) (g:=λ q=>some (some (.ref q.2))) (by kernel_rfl) h
theorem Kd(p:iu){q:Str×Value}(h:q∈HU):pY (KK p) du q.1=some none:=qO (f:=λ q=>pY (KK p) du q.1) (g:=λ V=>some none) (by kernel_rfl) h
theorem KU{q:Str×Value}(h:q∈HU):fU q.1=some q.2:=qO (f:=λ q=>fU q.1) (g:=λ q=>some q.2) (by kernel_rfl) h
theorem uB(p:iu):xm (KK p) 220 "height_of" 170:=Sh p (q:=("height_of",170)) (am (i:=10) rfl)
theorem yN(p:iu):ni (KK p) (.ref 220) "heights"=some none:=Sn p (am (i:=1) rfl)
theorem Kc(p:iu):pY (KK p) du "abs"=some none:=Kd p (q:=("abs",.builtin "abs")) (am (i:=0) rfl)
theorem KT:fU "abs"=some (.builtin "abs"):=KU (q:=("abs",.builtin "abs")) (am (i:=0) rfl)
section
variable{C:Cx}{F:dD}{n:Nat}{m:Str->Option Value}{U U' :AH}{X:Sx}{A A' :Ad}{S S' :SS}{me:Addr}{E E' :List (Addr×ba)}
theorem LP:fA m x v x=some v:=by simp [fA]
theorem Pb(h:(y==x)=false)(k:m y=some w):fA m x v y=some w:=by
 unfold fA
 exact ae (if_neg (by simpa using h)) k
theorem u9(x:Str)(p pos:Pos)(attr:Str)(env:Env):gb (.Attribute (.Name x p) attr pos) env=(do
   let o<-gb (.Name x p) env
   fT pos.atName
   let r<-fF [o] (xG o attr true)
   RI (.Name x p) o r
   eu r):=rfl
noncomputable def says(S:SS)(l:Int):Option Bool:=(lk S.known l.natAbs).map λ b=>b==decide (l>0)
noncomputable def xP:Option Bool->Value
 | none=> .none
 | some b=> .bool b
theorem Il{Q:Bool->AH->Prop}(hm:iX op r=false)(h:WE C F n l m U λ a U1=>WE C F n r m U1 λ b Uq=>ji C F n (bm op) a b m Uq (qe λ c Ux=>WV C F n lS c m Ux Q)):
  WT C F n (.Compare l [op] [r] pos) m U Q:=K9 hm h
theorem I_{P Q:Prop}(hc:c=true)(h:P):if c=true then P else Q:=ah (if_pos hc) h
theorem uT{Q:Value->AH->Prop}(h:Q (.bool true) U):ji C F n (bm .Is) .none .none m U (qe Q):=kK rfl h
theorem Ax{Q:Value->AH->Prop}(h:Q (.bool false) U):ji C F n (bm .Is) (.bool b) .none m U (qe Q):=kK rfl (by cases b<;>exact h)
theorem HD{Q:Value->AH->Prop}(h:Q (.bool false) U):ji C F n (bm .Is) (vi b) .none m U (qe Q):=kK rfl h
theorem HC{Q:Value->AH->Prop}(h:Q (.bool false) U):ji C F n (bm .Is) (.ref b) .none m U (qe Q):=kK rfl h
theorem BY{Q:Value->AH->Prop}(h:Q (.bool o.isNone) U):ji C F n (bm .Is) (xP o) .none m U (qe Q):=by
 cases o with
 | none=>exact uT h
 | some b=>exact Ax h
theorem EK{Q:Value->AH->Prop}(h:Q (.bool o.isNone) U):ji C F n (bm .Is) (vo o) .none m U (qe Q):=by
 cases o with
 | none=>exact uT h
 | some b=>exact HD h
theorem BZ{Q:Value->AH->Prop}(h:Q (.bool (o==some b)) U):ji C F n (bm .Eq) (xP o) (.bool b) m U (qe Q):=by
 cases o with
 | none=>exact EN h
 | some c=>exact Ay h
theorem BX{Q:Value->AH->Prop}(h:Q (.bool (!(o==some b))) U):ji C F n (bm .NotEq) (xP o) (.bool b) m U (qe Q):=λ x y hx hy O Z s W R K=>by
 cases o with
 | none=>exact ah (oH hx) (ah (ir hy) (ec (Gy _) (K _ _ _ R h)))
 | some c=>exact ah (ir (b:=c) hx) (ah (ir hy) (ec (GA _ _) (K _ _ _ R h)))
theorem J4{Q:Value->AH->Prop}(h:Q (.bool (!b)) U):WV C F n (LX .Not) (.bool b) m U (qe Q):=λ a ha O Z s W R K=>ah (ir ha) (((aj (jB (aD (K _ _ _ R h)))):br _ _ (do let c<-lS (.bool b);eu (cf (!c))) _ _ _))
theorem e0(h:U.get a=some o)(hr:∀ob v,o≠ .ro ob v):U.rd a=some o:=by
 unfold AH.rd
 refine ah h ?_
 (try clear h);cases o<;>first | rfl | exact absurd rfl (hr _ _)
theorem DD(h:U.get a=some (.ro o v)):U.rd a=some v:=by
 unfold AH.rd
 exact ah h rfl
theorem St.rd(T:St me A S U E)(t:tg)(h:fS A S t=some o)(hr:∀ob v,o≠ .ro ob v):U.rd (A t)=some o:=e0 (T.has t h) hr
theorem St.heats(T:St me A S U E):U.rd (A .heats)=some (.dict (mh vi S.heats)):=by
 have h:=T.has .heats rfl
 cases hl:S.lock with
 | none=>replace h:=hl▸h;exact e0 h (by intro _ _ h;cases h)
 | some o=>replace h:=hl▸h;exact DD h
theorem Iu{Q:Value->AH->Prop}(hk:F.env.kindOf x=some .globalImplicit)(hx:pY C.K du x=some (some (.int i t)))(hd:(x==("__debug__":Str))=false)(h:Q (vi i) U):WE C F n (.Name x pos) m U Q:=Cd hk hx hd h
noncomputable def XI(v:Value)(U:AH)(Q:Option Int->AH->Prop):Prop:=∃i,v=vi i/\Q (some i) U
theorem Io{Q:Option Int->AH->Prop}(h:WE C F n e m U λ v U' =>XI v U' Q):WP C F n (some e) m U Q:=h
theorem lK(f:Nat->Addr)(k:Nat):(refsOf f k).length=k:=by unfold refsOf;exact ae (ag ..) (ae eT rfl)
theorem yj(f:Nat->Addr)(k i:Nat)(h:i<k):(refsOf f k)[i]? =some (.ref (f i)):=by
 unfold refsOf
 exact ae ay (ah (o7 h) rfl)
theorem qL(f g:Nat->Addr)(k:Nat)(a:Addr)(h1:∀i,i<k->g i=f i)(h2:g k=a):refsOf g (k+1)=refsOf f k++[.ref a]:=by
 unfold refsOf
 refine ah iG (ae aE (ah aU (ah h2 ?_)))
 congr 1
 exact dq λ i hi=>ah (h1 i (bK.mp hi)) rfl
theorem Ip{Q:Value->AH->Prop}(T:St me A S U E)(hm:m x=some (.ref me))(hl:nsLook attr (fields A S)=some v)(hn:ni (KK X.w.params) (.ref 220) attr=some none)(hv:qy v=true)(h:Q v U):
  WE (CX X) F n (.Attribute (.Name x p) attr pos) m U Q:=vg (u9 _ _ _ _ _) (f_ hm (dt T.self (G2 (T.inv.at_ .self _ rfl) (T.inv.at_ .ns _ rfl) hl (Bp _) hn hv h)))
theorem yM(A:Ad)(S:SS):(fields A S).length<=900:=by simp [fields]
noncomputable def NS(attr:Str)(v:Value)(A:Ad)(S:SS)(U:AH)(K:AH->Prop):Prop:=K (U.put (A .ns) (.ns (j5 (fields A S) attr v)))
noncomputable def XA(attr x:Str)(m:Str->Option Value)(v:Value)(U:AH)(K:AH->Prop):Prop:=∃A S me E,St me A S U E/\m x=some (.ref me)/\NS attr v A S U K
theorem OE{K:AH->Prop}(T:St me A S U E)(hm:m x=some (.ref me))(h:NS attr v A S U K):XA attr x m v U K:=⟨_,_,_,_,T,hm,h⟩
theorem Iy{Q:ig->(Str->Option Value)->AH->Prop}(hs:iE e (some (.Attribute (.Name x p) attr p')) pos.line F.env=eu false)
  (ht:F6 (KK X.w.params) 220 attr=some none) (h:WE (CX X) F n e m U λ v U1=>XA attr x m v U1 (Q .next m)):
  W1 (CX X) F n (.Assign [.Attribute (.Name x p) attr p'] e pos) m U Q:=sF hs (h.mono λ v U1 ⟨A,S,me,E,T,hm,q⟩=>f_ hm (Ao _ _ _ _ (dt T.self rfl) (T.inv.at_ .self _ rfl) (T.inv.at_ .ns _ rfl) (Bp _) ht (yM _ _) q))
theorem FF{Q:Value->AH->Prop}(T:St me A S U E)(hm:m x=some (.ref me))
  (he:gb (.Call (.Attribute (.Name x p) name US) args [] pos) F.env=(do
   let ov<-gb (.Name x p) F.env
   fT US.atName
   let (f,first)<-fF [ov] (qY ov name pl)
   lW pos f first (fg pos (dj args F.env)) [])) (hp:ip args) (hl:nsLook name (fields A S)=none) (hM:xm (KK X.w.params) 220 name f)
  (h:WL (CX X) F n args m U λ vs Uq=>WC (CX X) n f (.ref me::vs) Uq Q):WE (CX X) F n (.Call (.Attribute (.Name x p) name US) args [] pos) m U Q:=
 Ir he hp (f_ hm ⟨_,_,_,_,f,dt T.self rfl,T.inv.at_ .self _ rfl,T.inv.at_ .ns _ rfl,hl,Bp _,hM,T.self▸h⟩)
theorem St.ns(T:St me A S U E)(S' :SS)(hS:j5 (fields A S) attr v=fields A S')(h4:∀u,u≠ .ns->(fS A S' u=none\/fS A S' u=fS A S u))(Z:nS S'):St me A S' (U.put (A .ns) (.ns (j5 (fields A S) attr v))) E:=
 T.put .ns trivial (ah hS rfl) h4 Z
theorem St.nsN(T:St me A S U ((a,o)::E))(t:tg)(A' :Ad)(S' :SS)(e1:A' t=a)(e2:∀u,u≠t->A' u=A u)(ht:fS A' S' t=some o)(VX:t≠ .ns)(hts:tg.self≠t)
  (hS:j5 (fields A S) attr (.ref a)=fields A' S') (h4:∀u,u≠t->u≠ .ns->(fS A' S' u=none\/fS A' S' u=fS A S u)) (Z:nS S'):St me A' S' (U.put (A .ns) (.ns (j5 (fields A S) attr (.ref a)))) E:=
 T.upd t .ns e1 e2 (λ q hq=>by replace hq:=ht▸hq;exact (bq hq).symm) VX hts trivial (ah hS ((rfl:some (ba.ns _)=_))) h4 Z
end
section
variable{m:Str->Option Value}{U U' :AH}{A A' :Ad}{S S' :SS}{me:Addr}{E E' :List (Addr×ba)}{Q:AH->Prop}
theorem Bw(T:St me A S U ((a,.list xs)::E))(hx:xs=bs.map vn)(hz:bs.length<=100000)(h:∀A' U',(∀u,u≠ .begins->A' u=A u)->St me A' (S.uBegins bs) U' E->Q U'):NS "begins" (.ref a) A S U Q:=by
 subst hx
 exact h (vY A a) _ (λ u hu=>by cases u<;>first | rfl | exact absurd rfl hu) (T.nsN .begins (vY A a) (S.uBegins bs) rfl (λ u hu=>by cases u<;>first | rfl | exact absurd rfl hu) rfl (by simp) (by simp) rfl (λ u hu hv=>by cases u<;>first | exact .inr rfl | exact absurd rfl hu | exact absurd rfl hv) {T.fit with z8:=hz})
theorem DP(T:St me A S U ((a,.dict kv)::E))(hl:S.lock=none)(hx:kv=mh vi hs)(hz:Kv hs)(h:∀A' U',(∀u,u≠ .heats->A' u=A u)->St me A' (S.uHeats hs) U' E->Q U'):NS "heats" (.ref a) A S U Q:=by
 subst hx
 exact h (zB A a) _ (λ u hu=>by cases u<;>first | rfl | exact absurd rfl hu) (T.nsN .heats (zB A a) (S.uHeats hs) rfl (λ u hu=>by cases u<;>first | rfl | exact absurd rfl hu) (((ah hl rfl):some (lN S.lock _)=_)) (by simp) (by simp) rfl (λ u hu hv=>by cases u<;>first | exact .inr rfl | exact absurd rfl hu | exact absurd rfl hv) {T.fit with v5:=hz})
theorem Bv(T:St me A S U ((a,.tup xs)::E))(hx:xs=bs.map vi)(h:∀A' U',(∀u,u≠ .blamed->A' u=A u)->St me A' (S.uBlamed bs) U' E->Q U'):NS "blamed" (.ref a) A S U Q:=by
 subst hx
 exact h (vX A a) _ (λ u hu=>by cases u<;>first | rfl | exact absurd rfl hu) (T.nsN .blamed (vX A a) (S.uBlamed bs) rfl (λ u hu=>by cases u<;>first | rfl | exact absurd rfl hu) rfl (by simp) (by simp) rfl (λ u hu hv=>by cases u<;>first | exact .inr rfl | exact absurd rfl hu | exact absurd rfl hv) {T.fit with})
end
section
variable{C:Cx}{F:dD}{n:Nat}{m:Str->Option Value}{U U' :AH}{A A' :Ad}{S S' :SS}{me:Addr}{E E' :List (Addr×ba)}
theorem sy{α:Type}{f:α->Value}{r:List (Int×α)}{x:α}{Q:AH->Prop}(t:tg)(S' :SS)(T:St me A S U E)(ht:fS A S t=some (.dict (mh f r)))(hk:kA r)(hz:r.length<=1000000)(hS:fS A S' t=some (.dict (mh f (ins r k x))))
  (h4:∀u,u≠t->(fS A S' u=none\/fS A S' u=fS A S u)) (Z:nS S') (h:∀U',St me A S' U' E->Q U'):WI C F n (.ref (A t)) (vi k) (f x) m U Q:=by
 refine qg (T.has _ ht) (by unfold mh;exact ah (ag ..) (ac hz (af _ _))) (h _ ?_)
 exact ah (lJ f r k x hk) (T.put t (eP.mpr ⟨_,ht⟩) hS h4 Z)
theorem C5{k:Int}{b:Bool}{Q:AH->Prop}(T:St me A S U E)(h0:0<=k/\k<=1000)(h:∀U',St me A (S.uKnown (ins S.known k b)) U' E->Q U'):WI C F n (.ref (A .known)) (vi k) (.bool b) m U Q:=
 sy (f:=vb) .known (S.uKnown (ins S.known k b)) T rfl T.fit.k1 (by have:=T.fit.z1;exact ac this (af _ _)) rfl (λ u hu=>by cases u<;>first | exact .inr rfl | exact absurd rfl hu) {T.fit with v1:=T.fit.v1.ins _ h0.1 h0.2} h
theorem C4{k:Int}{b:Bool}{Q:AH->Prop}(T:St me A S U E)(h0:0<=k/\k<=1000)(h:∀U',St me A (S.uLiked (ins S.liked k b)) U' E->Q U'):WI C F n (.ref (A .liked)) (vi k) (.bool b) m U Q:=
 sy (f:=vb) .liked (S.uLiked (ins S.liked k b)) T rfl T.fit.k4 (by have:=T.fit.z4;exact ac this (af _ _)) rfl (λ u hu=>by cases u<;>first | exact .inr rfl | exact absurd rfl hu) {T.fit with v4:=T.fit.v4.ins _ h0.1 h0.2} h
theorem xO{k:Int}{b:Nat}{Q:AH->Prop}(T:St me A S U E)(h0:0<=k/\k<=1000)(h:∀U',St me A (S.uHeights (ins S.heights k b)) U' E->Q U'):WI C F n (.ref (A .heights)) (vi k) (vi (b:Int)) m U Q:=
 sy (f:=vn) .heights (S.uHeights (ins S.heights k b)) T rfl T.fit.k2 (by have:=T.fit.z2;exact ac this (af _ _)) rfl (λ u hu=>by cases u<;>first | exact .inr rfl | exact absurd rfl hu) {T.fit with v2:=T.fit.v2.ins _ h0.1 h0.2} h
theorem AX{k:Int}{b:Option Nat}{Q:AH->Prop}(T:St me A S U E)(h0:0<=k/\k<=1000)(h:∀U',St me A (S.uCauses (ins S.causes k b)) U' E->Q U'):WI C F n (.ref (A .causes)) (vi k) (vo b) m U Q:=
 sy (f:=vo) .causes (S.uCauses (ins S.causes k b)) T rfl T.fit.k3 (by have:=T.fit.z3;exact ac this (af _ _)) rfl (λ u hu=>by cases u<;>first | exact .inr rfl | exact absurd rfl hu) {T.fit with v3:=T.fit.v3.ins _ h0.1 h0.2} h
theorem C6{k:Int}{b:Int}{Q:AH->Prop}(T:St me A S U E)(hl:S.lock=none)(h0:0<=k/\k<=1000)(h:∀U',St me A (S.uHeats (ins S.heats k b)) U' E->Q U'):WI C F n (.ref (A .heats)) (vi k) (vi b) m U Q:=
 sy (f:=vi) .heats (S.uHeats (ins S.heats k b)) T (((ah hl rfl):some (lN S.lock _)=_)) T.fit.k5 (by have:=T.fit.z5;exact ac this (af _ _)) (((ah hl rfl):some (lN S.lock _)=_)) (λ u hu=>by cases u<;>first | exact .inr rfl | exact absurd rfl hu) {T.fit with v5:=T.fit.v5.ins _ h0.1 h0.2} h
theorem vc{Q:Value->AH->Prop}(t:tg)(S' :SS)(T:St me A S U E)(ht:fS A S t=some (.list xs))(hz:xs.length<=1000000)(hS:fS A S' t=some (.list (xs++[v])))
  (h4:∀u,u≠t->(fS A S' u=none\/fS A S' u=fS A S u)) (Z:nS S') (h:∀U',St me A S' U' E->Q .none U'):WB C F n (.builtin "list.append") [.ref (A t),v] m U (qe Q):=
 lr (T.has _ ht) (ac hz (af _ _)) (h _ (T.put t (eP.mpr ⟨_,ht⟩) hS h4 Z))
theorem Ih{Q:Value->AH->Prop}(T:St me A S U E)(hl:-1000<=l/\l<=1000)(hz:S.row.length<100000)(h:∀U',St me A (S.uRow (S.row++[l])) U' E->Q .none U'):WB C F n (.builtin "list.append") [.ref (A .row),vi l] m U (qe Q):=
 vc .row (S.uRow (S.row++[l])) T rfl (ah (ag ..) (aG (ai hz (af _ _)))) (((ah aE rfl):some (ba.list (l7 vi (S.row++[l])))=_)) (λ u hu=>by cases u<;>first | exact .inr rfl | exact absurd rfl hu)
  {T.fit with z7:=((ah aA (ah aW (bB hz))):(S.row++[l]).length<=_),lit:=λ x hx=>(az.mp hx).elim (T.fit.lit x) λ h=>ah (aq.mp h) hl} h
theorem y_{k:Nat}{Q:Value->AH->Prop}(T:St me A S U E)(hz:S.begins.length<100000)(h:∀U',St me A (S.uBegins (S.begins++[k])) U' E->Q .none U'):WB C F n (.builtin "list.append") [.ref (A .begins),vi (k:Int)] m U (qe Q):=
 vc .begins (S.uBegins (S.begins++[k])) T rfl (ah (ag ..) (aG (ai hz (af _ _)))) (((ah aE rfl):some (ba.list (l7 vn (S.begins++[k])))=_)) (λ u hu=>by cases u<;>first | exact .inr rfl | exact absurd rfl hu)
  {T.fit with z8:=((ah aA (ah aW (bB hz))):(S.begins++[k]).length<=_)} h
theorem KZ{k:Nat}{Q:Value->AH->Prop}(T:St me A S U E)(hw:lk S.watch l=some w)(hz:w.length<100000)(h:∀U',St me A (S.uWatch (ins S.watch l (w++[k]))) U' E->Q .none U'):WB C F n (.builtin "list.append") [.ref (A (.wl l)),vi (k:Int)] m U (qe Q):=by
 have hkeys:∀(r:List (Int×List Nat)),(∀x,lk r l=some x->(ins r l (w++[k])).map (λ p=>(p.1,aZ (A (.wl p.1))))=r.map (λ p=>(p.1,aZ (A (.wl p.1))))):=by
  intro r
  induction r with
  | nil=>intro x h;exact (bH h).elim
  | cons p r ih=>
   obtain ⟨a,b⟩:=p
   intro x hx
   unfold lk at hx
   unfold ins
   by_cases e:a=l
   ·exact ah (if_pos e) rfl
   ·rw [if_neg e] at hx⊢;exact ae aU (ah aU (ah (ih x hx) rfl))
 have hkv:Kw (ins S.watch l (w++[k])):=by
  refine ⟨(iO _ _ _ T.fit.k6).1,λ j hj=>?_⟩
  clear h hkeys;rcases ((iO _ _ _ T.fit.k6).2 j).mp hj with rfl | hj
  ·have:j∈S.watch.map (·.1):=by
    rcases Gn (j∈S.watch.map (·.1)) with h | h
    ·exact h
    ·replace hw:=(ii _ _).mpr h▸hw;exact (bH hw).elim
   exact T.fit.v6.2 j this
  ·exact T.fit.v6.2 j hj
 refine vc (.wl l) (S.uWatch (ins S.watch l (w++[k]))) T (((ah hw rfl):(lk S.watch l).map _=_)) (ah (ag ..) (aG (ai hz (af _ _)))) ?_ (λ u hu=>?_) {T.fit with v6:=hkv} h
 ·refine (?_:(lk (ins S.watch l (w++[k])) l).map _=_)
  exact ah (eV ..) (ah (if_pos rfl) (ae (d8 ..) (ah aE rfl)))
 ·cases u with
  | wl j=>
   refine .inr (?_:(lk (ins S.watch l (w++[k])) j).map _=(lk S.watch j).map _)
   exact ah (eV ..) (ah (if_neg λ e=>hu (by exact ah e rfl)) rfl)
  | watching=>exact .inr (by refine (?_:some (ba.dict _)=some (ba.dict _));exact ah (hkeys S.watch _ hw) rfl)
  | _=>exact .inr rfl
theorem Kt{Q:Value->AH->Prop}(T:St me A S U E)(hw:lk S.watch l=some w)(hb:(b,.list xs)∈E)(hx:xs=u.map vn)(hz:w.length+u.length<=100000)
  (h:∀U',St me A (S.uWatch (ins S.watch l (w++u))) U' E->Q .none U'):WB C F n (.builtin "list.extend") [.ref (A (.wl l)),.ref b] m U (qe Q):=by
 subst hx
 have hkeys:∀(r:List (Int×List Nat)),(∀x,lk r l=some x->(ins r l (w++u)).map (λ p=>(p.1,aZ (A (.wl p.1))))=r.map (λ p=>(p.1,aZ (A (.wl p.1))))):=by
  intro r
  induction r with
  | nil=>intro x h;exact (bH h).elim
  | cons p r ih=>
   obtain ⟨a,b⟩:=p
   intro x hx
   unfold lk at hx
   unfold ins
   by_cases e:a=l
   ·exact ah (if_pos e) rfl
   ·rw [if_neg e] at hx⊢;exact ae aU (ah aU (ah (ih x hx) rfl))
 have hkv:Kw (ins S.watch l (w++u)):=by
  refine ⟨(iO _ _ _ T.fit.k6).1,λ j hj=>?_⟩
  clear h hkeys;rcases ((iO _ _ _ T.fit.k6).2 j).mp hj with rfl | hj
  ·have:j∈S.watch.map (·.1):=by
    rcases Gn (j∈S.watch.map (·.1)) with h | h
    ·exact h
    ·replace hw:=(ii _ _).mpr h▸hw;exact (bH hw).elim
   exact T.fit.v6.2 j this
  ·exact T.fit.v6.2 j hj
 have hl:fS A S (.wl l)=some (.list (w.map vn)):=((ah hw rfl):(lk S.watch l).map _=_)
 refine B8 (T.has _ hl) (e0 (T.at_ hb) (by intro _ _ h;cases h)) (ah (ag ..) (ah (ag ..) (ac hz (af _ _)))) (h _ (T.put (.wl l) (eP.mpr ⟨_,hl⟩) ?_ (λ u hu=>?_) {T.fit with v6:=hkv}))
 ·refine (?_:(lk (ins S.watch l (w++u)) l).map _=_)
  exact ah (eV ..) (ah (if_pos rfl) (ae (d8 ..) (ah aE rfl)))
 ·cases u with
  | wl j=>
   exact .inr (((ah (eV ..) (ah (if_neg λ e=>hu (by exact ah e rfl)) rfl)):(lk (ins S.watch l (w++_)) j).map _=(lk S.watch j).map _))
  | watching=>exact .inr (by refine (?_:some (ba.dict _)=some (ba.dict _));exact ah (hkeys S.watch _ hw) rfl)
  | _=>exact .inr rfl
theorem Ii{Q:Value->AH->Prop}(T:St me A S U ((a,.tup xs)::E))(hx:xs=c.map vi)(hz:S.log.length<100000)(h:∀A' U',(∀u,u≠ .logT S.log.length->A' u=A u)->St me A' (S.uLog (S.log++[c])) U' E->Q .none U'):WB C F n (.builtin "list.append") [.ref (A .log),.ref a] m U (qe Q):=by
 subst hx
 have e2:∀u,u≠ .logT S.log.length->xR A S.log.length a u=A u:=λ u hu=>by
  cases u with
  | logT i=>exact if_neg λ e=>hu (by exact ah e rfl)
  | _=>rfl
 have et:fS (xR A S.log.length a) (S.uLog (S.log++[c])) (.logT S.log.length)=some (.tup (c.map vi)):=((ah (c8 (aw _)) (ah (kF ..) rfl)):((S.log++[c])[S.log.length]?).map _=_)
 have eW:refsOf (λ i=>xR A S.log.length a (.logT i)) (S.log++[c]).length=refsOf (λ i=>A (.logT i)) S.log.length++[.ref a]:=by
  refine ah aA (ah aW (qL _ _ _ _ (λ i hi=>if_neg (bP hi)) (if_pos rfl)))
 refine lr (T.has .log rfl) (ah (lK ..) (aG (ai hz (af _ _)))) (h _ _ e2 (T.upd (.logT S.log.length) .log (if_pos rfl) e2 (λ q hq=>by replace hq:=et▸hq;exact (bq hq).symm) (by simp) (by simp) trivial (by refine (?_:some (ba.list _)=_);exact ah eW rfl) (λ u hu hv=>?_)
  {T.fit with z10:=((ah aA (ah aW (bB hz))):(S.log++[c]).length<=_)}))
 cases u with
 | logT i=>
  have:i≠S.log.length:=λ e=>hu (ah e rfl)
  by_cases hi:i<S.log.length
  ·right;exact ((ah (cK hi) rfl):kx _ ((S.log++[c])[i]?)=kx _ (S.log[i]?))
  ·left;refine ((ah (bD (by refine ah aA (ah aW ?_);exact cV (b0 hi) this.symm)) ?_):kx _ ((S.log++[c])[i]?)=none);rfl
 | log=>exact absurd rfl hv
 | _=>exact .inr rfl
theorem Fp{Q:Value->AH->Prop}(T:St me A S U ((a,.list xs)::E))(hx:xs=c.map vi)(hz:S.rows.length<100000)(h:∀A' U',(∀u,u≠ .rowL S.rows.length->A' u=A u)->St me A' (S.uRows (S.rows++[c])) U' E->Q .none U'):WB C F n (.builtin "list.append") [.ref (A .rows),.ref a] m U (qe Q):=by
 subst hx
 have e2:∀u,u≠ .rowL S.rows.length->xQ A S.rows.length a u=A u:=λ u hu=>by
  cases u with
  | rowL i=>exact if_neg λ e=>hu (by exact ah e rfl)
  | _=>rfl
 have et:fS (xQ A S.rows.length a) (S.uRows (S.rows++[c])) (.rowL S.rows.length)=some (.list (c.map vi)):=((ah (c8 (aw _)) (ah (kF ..) rfl)):((S.rows++[c])[S.rows.length]?).map _=_)
 have eW:refsOf (λ i=>xQ A S.rows.length a (.rowL i)) (S.rows++[c]).length=refsOf (λ i=>A (.rowL i)) S.rows.length++[.ref a]:=by
  refine ah aA (ah aW (qL _ _ _ _ (λ i hi=>if_neg (bP hi)) (if_pos rfl)))
 refine lr (T.has .rows rfl) (ah (lK ..) (aG (ai hz (af _ _)))) (h _ _ e2 (T.upd (.rowL S.rows.length) .rows (if_pos rfl) e2 (λ q hq=>by replace hq:=et▸hq;exact (bq hq).symm) (by simp) (by simp) trivial (by refine (?_:some (ba.list _)=_);exact ah eW rfl) (λ u hu hv=>?_)
  {T.fit with z9:=((ah aA (ah aW (bB hz))):(S.rows++[c]).length<=_)}))
 cases u with
 | rowL i=>
  have:i≠S.rows.length:=λ e=>hu (ah e rfl)
  by_cases hi:i<S.rows.length
  ·right;exact ((ah (cK hi) rfl):kx _ ((S.rows++[c])[i]?)=kx _ (S.rows[i]?))
  ·left;refine ((ah (bD (by refine ah aA (ah aW ?_);exact cV (b0 hi) this.symm)) ?_):kx _ ((S.rows++[c])[i]?)=none);rfl
 | rows=>exact absurd rfl hv
 | _=>exact .inr rfl
theorem GV{Q:Value->AH->Prop}(T:St me A S U E)(hr:S.row=r++[l])(h:∀U',St me A (S.uRow r) U' E->Q (vi l) U'):WB C F n (.builtin "list.pop") [.ref (A .row)] m U (qe Q):=by
 have hz:=T.fit.z7
 replace hz:=aW▸aA▸hr▸hz
 exact HR (xs:=r.map vi) (T.has .row (((ah hr (ah aE rfl)):some (ba.list (l7 vi S.row))=_))) (ah (ag ..) (ac (aG (aK _)) (ac hz (af _ _))))
  (h _ (T.put .row trivial rfl (λ u hu=>by cases u<;>first | exact .inr rfl | exact absurd rfl hu) {T.fit with z7:=((ac (ax _ _) hz):r.length<=_),lit:=λ x hx=>T.fit.lit x (ah hr (av _ hx))}))
theorem Bt{Q:Value->AH->Prop}(T:St me A S U E)(hk:lk S.known k=some b)(h:∀U',St me A (S.uKnown (del S.known k)) U' E->Q (.bool b) U'):WB C F n (.builtin "dict.pop") [.ref (A .known),vi k] m U (qe Q):=by
 refine HQ (T.has .known rfl) (by unfold mh;refine ah (ag ..) ?_;have:=T.fit.z1;exact ac this (af _ _)) (ae (gL ..) (ah hk rfl)) (h _ ?_)
 exact ah (vV ..) (T.put .known trivial rfl (λ u hu=>by cases u<;>first | exact .inr rfl | exact absurd rfl hu) {T.fit with v1:=T.fit.v1.del _})
theorem Dx{Q:Value->AH->Prop}(T:St me A S U E)(hl:S.lock=none)(h0:0<=k/\k<=1000)(h:∀v U',St me A (S.uHeats (if (lk S.heats k).isSome then S.heats else ins S.heats k 0)) U' E->Q v U'):WB C F n (.builtin "dict.setdefault") [.ref (A .heats),vi k,vi 0] m U (qe Q):=by
 refine oo (T.has .heats (((ah hl rfl):some (lN S.lock _)=_))) (by unfold mh;refine ah (ag ..) ?_;have:=T.fit.z5;exact ac this (af _ _)) ?_
 refine ah (gL ..) ?_
 cases e:lk S.heats k with
 | some v=>replace h:=e▸h;exact h _ _ T
 | none=>
  replace h:=e▸h
  exact h _ _ (ah (lJ vi S.heats k 0 T.fit.k5) (T.put .heats trivial (((ah hl rfl):some (lN S.lock _)=_)) (λ u hu=>by cases u<;>first | exact .inr rfl | exact absurd rfl hu) {T.fit with v5:=T.fit.v5.ins _ h0.1 h0.2}))
theorem yJ{Q:Value->AH->Prop}(T:St me A S U E)(hk:S.begins[k]? =some b)(h:Q (vn b) U):WG C F n (.ref (A .begins)) (vn k) m U Q:=
 mU (v:=vn b) (T.rd .begins rfl (by intro _ _ h;cases h)) (bG _) (by refine ah (ag ..) ?_;have:=T.fit.z8;exact ac this (af _ _)) (ae ay (ah (dT ..) (ah hk rfl))) h
theorem Hr{Q:Value->AH->Prop}(T:St me A S U E)(hk:S.row[k]? =some l)(h:Q (vi l) U):WG C F n (.ref (A .row)) (vn k) m U Q:=
 mU (v:=vi l) (T.rd .row rfl (by intro _ _ h;cases h)) (bG _) (by refine ah (ag ..) ?_;have:=T.fit.z7;exact ac this (af _ _)) (ae ay (ah (dT ..) (ah hk rfl))) h
theorem En{Q:Value->AH->Prop}(T:St me A S U E)(hk:k<S.rows.length)(h:Q (.ref (A (.rowL k))) U):WG C F n (.ref (A .rows)) (vn k) m U Q:=
 mU (v:=.ref (A (.rowL k))) (T.rd .rows rfl (by intro _ _ h;cases h)) (bG _) (by refine ah (lK ..) ?_;have:=T.fit.z9;exact ac this (af _ _)) (ah (dT ..) (yj _ _ _ hk)) h
theorem mN(hk:S.rows[k]? =some r):fS A S (.rowL k)=some (.list (r.map vi)):=((ah hk rfl):(S.rows[k]?).map _=_)
theorem Eo{Q:Value->AH->Prop}(T:St me A S U E)(hk:S.rows[k]? =some r)(h0:0<=j)(hz:r.length<=1000000)(hj:r[j.toNat]? =some l)(h:Q (vi l) U):WG C F n (.ref (A (.rowL k))) (vi j) m U Q:=
 mU (v:=vi l) (T.rd (.rowL k) (mN hk) (by intro _ _ h;cases h)) h0 (ah (ag ..) (ac hz (af _ _))) (ae ay (ah hj rfl)) h
theorem wJ{Q:Value->AH->Prop}(T:St me A S U E)(hk:lk S.heights k=some b)(h:Q (vn b) U):WG C F n (.ref (A .heights)) (vi k) m U Q:=
 pC (T.rd .heights rfl (by intro _ _ h;cases h)) (ae (gL ..) (ah hk rfl)) h
theorem yI{Q:Value->AH->Prop}(T:St me A S U E)(hk:lk S.causes k=some b)(h:Q (vo b) U):WG C F n (.ref (A .causes)) (vi k) m U Q:=
 pC (T.rd .causes rfl (by intro _ _ h;cases h)) (ae (gL ..) (ah hk rfl)) h
theorem BS{Q:Value->AH->Prop}(T:St me A S U E)(hk:lk S.heats k=some b)(h:Q (vi b) U):WG C F n (.ref (A .heats)) (vi k) m U Q:=
 pC T.heats (ae (gL ..) (ah hk rfl)) h
theorem Ds{Q:AH->Prop}(T:St me A S U E)(hk:S.rows[k]? =some r)(h0:0<=j)(hz:r.length<=1000000)(hj:j<r.length)(h:∀R U',R=S.rows.set k (r.set j.toNat l)->R[k]? =some (r.set j.toNat l)->St me A (S.uRows R) U' E->Q U'):WI C F n (.ref (A (.rowL k))) (vi j) (vi l) m U Q:=by
 have hlt:=(al.mp hk).1
 refine Dt (T.has (.rowL k) (mN hk)) h0 (ah (ag ..) (ac hz (af _ _))) (ah (ag ..) hj) (h _ _ rfl (ae (dw hlt) rfl) ?_)
 refine dt Ma (T.put (.rowL k) hlt (mN (ae (dw hlt) rfl)) (λ u hu=>?_) {T.fit with z9:=((ah cJ T.fit.z9):(S.rows.set _ _).length<=_)})
 cases u with
 | rowL i=>
  right
  exact ((ah (ox λ e=>hu (by exact ah e rfl)) rfl):((S.rows.set k (r.set j.toNat l))[i]?).map _=_)
 | rows=>right;refine (?_:some (ba.list _)=some (ba.list _));exact ah cJ rfl
 | _=>exact .inr rfl
theorem wG{α:Type}:∀(r:List (Int×α)) (l:Int) (v:α),lk r l=some v->ins r l v=r
 | [],l,v,h=>(bH h).elim
 | (k,w)::r,l,v,h=>by
  unfold lk at h
  unfold ins
  by_cases e:k=l
  ·rw [if_pos e] at h⊢;exact ah (bq h) rfl
  ·rw [if_neg e] at h⊢;exact ah (wG r l v h) rfl
theorem uK{α:Type}:∀(r:List (Int×α)) (l:Int) (v w:α),ins (ins r l v) l w=ins r l w
 | [],l,v,w=>by simp [ins]
 | (k,x)::r,l,v,w=>by
  refine (?_:ins (if k=l then (k,v)::r else (k,x)::ins r l v) l w=if k=l then (k,w)::r else (k,x)::ins r l w)
  by_cases e:k=l
  ·exact ah (if_pos e) (ah (if_pos e) (((ae (if_pos e) rfl):(if k=l then _ else _)=_)))
  ·refine ah (if_neg e) (ah (if_neg e) (?_:(if k=l then _ else _)=_));exact ae (if_neg e) (ah (uK r l v w) rfl)
theorem lM{α β:Type}(f:Int×α->β)(g:Int×α->β):∀(r:List (Int×α)) (l:Int) (v:α),lk r l=none->(∀p∈r,g p=f p)->(ins r l v).map g=r.map f++[g (l,v)]
 | [],l,v,_,_=>rfl
 | (k,x)::r,l,v,h,hg=>by
  unfold lk at h
  unfold ins
  by_cases e:k=l
  ·replace h:=if_pos e▸h;exact (hV h).elim
  ·rw [if_neg e] at h⊢
   exact ae aU (ah (lM f g r l v h λ p hp=>hg p (.tail _ hp)) (ah aU (ah (hg _ (.head _)) rfl)))
theorem lI(r:List (Int×Value))(l:Int)(v:Value)(h:l∉r.map (·.1)):dM r l v=r++[(l,v)]:=by
 unfold dM
 have:r.any (λ p=>decide (p.1=l))=false:=by
  refine gk Gk ?_;intro p hp;simp only [decide_eq_true_eq];exact λ e=>h (e▸bo hp)
 simp [this]
theorem uR(A:Ad):∀(W:List (Int×List Nat)) (l:Int),iV (W.map λ p=>(p.1,aZ (A (.wl p.1)))) l=(lk W l).map λ V=>aZ (A (.wl l))
 | [],l=>rfl
 | (k,v)::r,l=>by
  have ih:=uR A r l
  unfold iV dE at ih⊢
  simp only [aU,iH,lk]
  by_cases h:k=l
  ·(try clear ih);subst h;simp
  ·simp only [h,decide_false,if_false];exact ih
theorem Dw{Q:Value->AH->Prop}(T:St me A S U ((D,.list [])::E))(h0:-1000<=l/\l<=1000)
  (h:∀A' U' W,(∀u,live S u->A' u=A u)->W=ins S.watch l ((lk S.watch l).getD [])->lk W l=some ((lk S.watch l).getD [])->St me A' (S.uWatch W) U' E->Q (.ref (A' (.wl l))) U'):WB C F n (.builtin "dict.setdefault") [.ref (A .watching),vi l,.ref D] m U (qe Q):=by
 refine oo (T.has .watching rfl) (by refine ah (ag ..) ?_;have:=T.fit.z6;exact ac this (af _ _)) ?_
 refine ah (uR ..) ?_
 have hl:lk (ins S.watch l ((lk S.watch l).getD [])) l=some ((lk S.watch l).getD []):=ae (eV ..) (ae (if_pos rfl) rfl)
 cases e:lk S.watch l with
 | some v=>
  refine h A U S.watch (λ V V=>rfl) ?_ ?_ T.drop
  ·exact ah e ((wG _ _ _ e).symm)
  ·rewrite [e];rfl
 | none=>
  have e2:∀u,u≠ .wl l->ug A l D u=A u:=λ u hu=>by
   cases u with
   | wl i=>exact if_neg λ e=>hu (by exact ah e rfl)
   | _=>rfl
  have hk:=(ii S.watch l).mp e
  have hne:∀p∈S.watch,¬p.1=l:=λ p hp e=>hk (e▸bo hp)
  have eD:aZ D=.ref (ug A l D (.wl l)):=((ah (if_pos rfl) rfl):_=aZ (if l=l then D else _))
  refine (?_:Q (.ref D) _)
  refine ah eD (h (ug A l D) _ _ (λ u hu=>e2 u λ q=>by subst q;rewrite [live] at hu;replace hu:=e▸hu;exact (iP hu).elim) rfl hl (ah e (ah (lI _ _ _ (ah bI hk)) ?_)))
  refine T.upd (.wl l) .watching (if_pos rfl) e2 (λ q hq=>?_) (by simp) (by simp) trivial ?_ (λ u hu hv=>?_) {T.fit with v6:=T.fit.v6.ins _ h0.1 h0.2}
  ·have:fS (ug A l D) (S.uWatch (ins S.watch l ((none:Option (List Nat)).getD []))) (.wl l)=some (.list []):=by
    refine (?_:(lk (ins S.watch l _) l).map _=_);refine ah (eV ..) (ah (if_pos rfl) ?_);rfl
   replace hq:=this▸hq;exact (bq hq).symm
  ·refine (?_:some (ba.dict _)=_)
   exact ah (lM (λ p=>(p.1,aZ (A (.wl p.1)))) (λ p=>(p.1,aZ (ug A l D (.wl p.1)))) _ _ _ e λ p hp=>by refine (?_:(p.1,aZ (if p.1=l then D else _))=_);exact ah (if_neg (hne p hp)) rfl) rfl
  ·cases u with
   | wl j=>
    right
    refine (?_:(lk (ins S.watch l _) j).map _=(lk S.watch j).map _)
    exact ah (eV ..) (ah (if_neg λ e=>hu (by exact ah e rfl)) rfl)
   | watching=>exact absurd rfl hv
   | _=>exact .inr rfl
theorem St.wl_at(T:St me A S U E)(h:lk S.watch l=some w):U.get (A (.wl l))=some (.list (w.map vn)):=T.has (.wl l) (((ah h rfl):(lk S.watch l).map _=_))
theorem JL{Q:Value->AH->Prop}(T:St me A S U ((D,.list [])::E))
  (h:∀a U',St me A (S.uWatch (del S.watch l)) U' ((a,.list (((lk S.watch l).getD []).map vn))::E)->Q (.ref a) U'):WB C F n (.builtin "dict.pop") [.ref (A .watching),vi l,.ref D] m U (qe Q):=by
 refine HP (T.has .watching rfl) (by refine ah (ag ..) ?_;have:=T.fit.z6;exact ac this (af _ _)) ?_
 refine ah (uR ..) ?_
 cases e:lk S.watch l with
 | none=>
  replace h:=e▸h
  refine h D U ?_
  have:del S.watch l=S.watch:=by
   unfold del
   refine o9.mpr λ p hp=>?_
   simp only [ne_eq,decide_eq_true_eq]
   exact λ q=>(ii _ _).mp e (q▸bo hp)
  exact ah this T
 | some w=>
  replace h:=e▸h
  refine h _ _ ?_
  have YT:=T.drop
  have hw:kt (S.watch.map λ p=>(p.1,aZ (A (.wl p.1)))) l=(del S.watch l).map λ p=>(p.1,aZ (A (.wl p.1))):=by
   unfold kt del;exact ae nq rfl
  refine ah hw ?_
  have hlv:live S (.wl l):=by rewrite [live];exact ah e rfl
  have h4:∀u,u≠ .watching->(fS A (S.uWatch (del S.watch l)) u=none\/fS A (S.uWatch (del S.watch l)) u=fS A S u):=λ u hu=>by
   cases u with
   | wl j=>
    by_cases hj:j=l
    ·left;exact ((ah (oD ..) (ah (if_pos hj) rfl)):(lk (del S.watch l) j).map _=none)
    ·right;exact ((ah (oD ..) (ah (if_neg hj) rfl)):(lk (del S.watch l) j).map _=(lk S.watch j).map _)
   | watching=>exact absurd rfl hu
   | _=>exact .inr rfl
  have Uu:=YT.put (S' :=(S.uWatch (del S.watch l))) .watching trivial rfl h4 {T.fit with v6:=T.fit.v6.del _}
  have hne:A (.wl l)≠A .watching:=T.inv.ne hlv trivial (by simp)
  refine ⟨Uu.self,Uu.inv,Uu.fit,λ p hp=>?_,aY.mpr ⟨λ hm=>?_,Uu.nd⟩⟩
  ·rcases aM.mp hp with rfl | hp
   ·refine ⟨λ u hu e' =>?_,ae (AH.get_put_ne hne) (T.wl_at e)⟩
    have hu' :live S u:=T.lv h4 trivial u hu
    have:=T.inv.inj u _ hu' hlv e'
    clear e' hu';subst this
    rewrite [live] at hu
    replace hu:=(show lk ((S.uWatch (del S.watch l)):SS).watch l=none from ((ae (oD ..) (ae (if_pos rfl) rfl)):lk (del S.watch l) l=none))▸hu
    exact (iP hu).elim
   ·exact Uu.xt p hp
  ·exact aH (aF.mp hm) λ p hp e' =>((YT.xt p hp).1 (.wl l) hlv e'.symm)
theorem C3{Q:AH->Prop}(T:St me A S U ((a,.list xs)::E))(hx:xs=w.map vn)(hl:lk S.watch l=none)(h0:-1000<=l/\l<=1000)
  (h:∀A' U',(∀u,live S u->A' u=A u)->A' (.wl l)=a->St me A' (S.uWatch (ins S.watch l w)) U' E->Q U'):WI C F n (.ref (A .watching)) (vi l) (.ref a) m U Q:=by
 subst hx
 have e2:∀u,u≠ .wl l->ug A l a u=A u:=λ u hu=>by
  cases u with
  | wl i=>exact if_neg λ e=>hu (by exact ah e rfl)
  | _=>rfl
 have hk:=(ii S.watch l).mp hl
 have hne:∀p∈S.watch,¬p.1=l:=λ p hp e=>hk (e▸bo hp)
 refine qg (T.has .watching rfl) (by refine ah (ag ..) ?_;have:=T.fit.z6;exact ac this (af _ _)) (h (ug A l a) _ (λ u hu=>e2 u λ q=>by subst q;rewrite [live] at hu;replace hu:=hl▸hu;exact (iP hu).elim) (if_pos rfl) ?_)
 refine ah (lI _ _ _ (ah bI hk)) ?_
 refine T.upd (.wl l) .watching (if_pos rfl) e2 (λ q hq=>?_) (by simp) (by simp) trivial ?_ (λ u hu hv=>?_) {T.fit with v6:=T.fit.v6.ins _ h0.1 h0.2}
 ·have:fS (ug A l a) (S.uWatch (ins S.watch l w)) (.wl l)=some (.list (w.map vn)):=((ah (eV ..) (ah (if_pos rfl) rfl)):(lk (ins S.watch l _) l).map _=_)
  replace hq:=this▸hq;exact (bq hq).symm
 ·refine (?_:some (ba.dict _)=_)
  refine ah (lM (λ p=>(p.1,aZ (A (.wl p.1)))) (λ p=>(p.1,aZ (ug A l a (.wl p.1)))) _ _ _ hl λ p hp=>((ah (if_neg (hne p hp)) rfl):(p.1,aZ (if p.1=l then a else _))=_)) ?_
  exact ((ah (if_pos rfl) rfl):some (ba.dict (_++[(l,aZ (if l=l then a else _))]))=_)
 ·cases u with
  | wl j=>
   right
   exact ((ah (eV ..) (ah (if_neg λ e=>hu (by exact ah e rfl)) rfl)):(lk (ins S.watch l _) j).map _=(lk S.watch j).map _)
  | watching=>exact absurd rfl hv
  | _=>exact .inr rfl
theorem uE{Q:Value->AH->Prop}(t:tg)(T:St me A S U E)(ht:fS A S t=some (.list xs))(hl:xs.length=k)(hz:k<=1000000)(h:Q (vn k) U):WB C F n (.builtin "len") [.ref (A t)] m U (qe Q):=EX (T.rd _ ht (by intro _ _ h;cases h)) (ac (aC hl) (ac hz (af _ _))) (ah hl h)
theorem G'{Q:Value->AH->Prop}(T:St me A S U E)(h:Q (vn S.row.length) U):WB C F n (.builtin "len") [.ref (A .row)] m U (qe Q):=uE .row T rfl (ae (ag ..) rfl) (by have:=T.fit.z7;exact ac this (af _ _)) h
theorem yC{Q:Value->AH->Prop}(T:St me A S U E)(h:Q (vn S.begins.length) U):WB C F n (.builtin "len") [.ref (A .begins)] m U (qe Q):=uE .begins T rfl (ae (ag ..) rfl) (by have:=T.fit.z8;exact ac this (af _ _)) h
theorem DX{Q:Value->AH->Prop}(T:St me A S U E)(h:Q (vn S.rows.length) U):WB C F n (.builtin "len") [.ref (A .rows)] m U (qe Q):=uE .rows T rfl (lK _ _) (by have:=T.fit.z9;exact ac this (af _ _)) h
noncomputable def XR(o:Value)(P:Addr->Prop):Prop:=∃a,o=.ref a/\P a
theorem Ml{Q:AH->Prop}(T:St me A S U E)(ha:jP d (.dict kvs) (.dict (dM kvs k v)) E E')(hz:kvs.length<=1000000)(h:∀U',St me A S U' E' ->Q U'):WI C F n (.ref d) (vi k) v m U Q:=
 qg (T.at_ ha.mem) (ac hz (af _ _)) (h _ (T.turn ha))
end
end
section
section
variable{U U' :AH}{X:Sx}{A A' :Ad}{S S' :SS}{me:Addr}{E E' :List (Addr×ba)}{n:Nat}
noncomputable def ln(S:SS)(l:Int)(c:Option Nat):SS:=
 ((((S.uKnown (ins S.known l.natAbs (decide (l>0)))).uHeights (ins S.heights l.natAbs S.begins.length)).uCauses (ins S.causes l.natAbs c)).uRow (S.row++[l]))
noncomputable def q8(S:SS):SS:=match S.row.getLast? with
 | none=>S
 | some l=>(((S.uRow S.row.dropLast).uKnown (del S.known l.natAbs)).uLiked (ins S.liked l.natAbs ((lk S.known l.natAbs).getD false)))
noncomputable def i8:Nat->SS->SS
 | 0,S=>S
 | k+1,S=>q8 (i8 k S)
noncomputable def cP(S:SS)(h:Nat):SS:=match S.begins[h]? with
 | none=>S
 | some b=>(((i8 (S.row.length-b) S).uBegins (S.begins.take h)).uSeen ((i8 (S.row.length-b) S).row.length))
structure Tr(S:SS):Prop where
 nd:(S.row.map bE).Nodup
 kn:∀(v:Int) (b:Bool),lk S.known v=some b↔∃l∈S.row,(l.natAbs:Int)=v/\b=decide (l>0)
theorem DG(S:SS):(q8 S).row=S.row.dropLast:=by
 unfold q8
 split at⊢
 ·rename_i h;rewrite [List.getLast?_eq_none_iff] at h;simp [h]
 ·rfl
theorem pi:∀(k:Nat) (S:SS),(i8 k S).row=S.row.take (S.row.length-k)
 | 0,S=>by simp [i8]
 | k+1,S=>((ae (DG ..) (ah (pi k S) (ae List.dropLast_eq_take (ae i6 (ah bL (ah (dW (eE ..)) (ah (dW (eE ..)) rfl))))))):(q8 (i8 k S)).row=_)
theorem yo(S:SS):∃a b c,q8 S=(((S.uRow a).uKnown b).uLiked c):=by
 unfold q8;split at⊢
 ·exact Ap _ _ _ rfl
 ·exact Ap _ _ _ rfl
theorem io:∀(k:Nat) (S:SS),∃a b c,i8 k S=(((S.uRow a).uKnown b).uLiked c)
 | 0,S=>⟨_,_,_,rfl⟩
 | k+1,S=>kJ (io k S) λ a b c e=>(((ah e (kJ (yo (((S.uRow a).uKnown b).uLiked c)) λ a' b' c' e' =>(Ap a' b' c' e'))):∃a b c,q8 (i8 k S)=_))
theorem GW(T:Tr S):Tr (q8 S):=by
 cases h:S.row.getLast? with
 | none=>unfold q8;rewrite [h];exact T
 | some l=>
  have hr:S.row=S.row.dropLast++[l]:=by
   refine aS (List.getLast?_eq_some_iff.mp h) λ hne e=>?_
   rewrite [e];simp
  have nd:=T.nd
  replace nd:=aE▸hr▸nd;rewrite [cU] at nd
  refine ck nd λ n1 V n3=>?_;clear nd
  unfold q8
  refine ah h (⟨n1,λ v b=>(((ah (oD ..) ?_):lk (del S.known l.natAbs) v=some b↔∃x∈S.row.dropLast,_))⟩)
  constructor
  ·intro e
   split at e
   ·exact (bH e).elim
   ·rename_i hv
    refine cX ((T.kn v b).mp e) λ x hx e1 e2=>?_
    replace hx:=hr▸hx
    rcases az.mp hx with hx | hx
    ·exact fV x hx e1 e2
    ·replace e1:=aq.mp hx▸e1;exact absurd e1.symm hv
  ·intro Uv;refine cX Uv λ x hx e1 e2=>?_;clear Uv
   have hne:¬v=l.natAbs:=λ e=>by
    have:=n3 x.natAbs (bo hx) l.natAbs (by simp)
    replace e:=dc e1▸e
    exact this (by exact_mod_cast e)
   exact ae (if_neg hne) ((T.kn v b).mpr ⟨x,ah hr (av _ hx),e1,e2⟩)
theorem un:∀(k:Nat) {S:SS},Tr S->Tr (i8 k S)
 | 0,_,T=>T
 | k+1,_,T=>GW (un k T)
theorem GX(h:S.row=r++[l])(hb:lk S.known l.natAbs=some b):q8 S=(((S.uRow r).uKnown (del S.known l.natAbs)).uLiked (ins S.liked l.natAbs b)):=by
 unfold q8
 refine ah h (ah List.getLast?_concat ?_)
 simp [hb]
theorem Tr.at_(T:Tr S)(h:l∈S.row):lk S.known l.natAbs=some (decide (l>0)):=(T.kn _ _).mpr ⟨l,h,rfl,rfl⟩
theorem kc(h:S.begins[k]? =none):cP S k=S:=by unfold cP;exact ah h rfl
noncomputable def ph(S:SS):SS:=((S.uRefuted true).uLog (S.log++[[]]))
noncomputable def gq(S:SS)(l:Int)(k:Nat):SS:=(S.uWatch (ins S.watch l ((lk S.watch l).getD []++[k])))
noncomputable def iy(S:SS)(c:List Int):SS:=(c.take 2).foldl (λ S l=>gq S l (S.rows.length-1)) (S.uRows (S.rows++[c]))
noncomputable def Wz(S:SS)(k:Nat):Prop:=∀l,((lk S.watch l).getD []).length<=k
theorem Wz.add(h:Wz S k)(l:Int)(j:Nat):Wz (gq S l j) (k+1):=λ x=>by
 refine ((ah (eV ..) (eC (λ V=>?_) λ V=>?_)):((lk (ins S.watch l _) x).getD []).length<=_)
 ·have:=h l;simp;exact this
 ·have:=h x;exact ac this (ax _ _)
end
end
section
section
variable{U U' :AH}{X:Sx}{A A' :Ad}{S S' :SS}{me:Addr}{E E' :List (Addr×ba)}{n:Nat}
noncomputable def dg(r:List Int)(lost:Int):List Int:=if r.getD 0 0=lost then (r.set 0 (r.getD 1 0)).set 1 lost else r
noncomputable def lY(S:SS)(r:List Int):Nat->Nat->Option Nat
 | _,0=>none
 | k,j+1=>if says S (r.getD k 0)≠some false then some k else lY S r (k+1) j
theorem zV(S:SS)(r:List Int)(k j:Nat):lY S r k (j+1)=if says S (r.getD k 0)≠some false then some k else lY S r (k+1) j:=rfl
noncomputable def d3(S:SS)(i:Nat)(lost:Int):SS×Bool:=
 let r:=dg (S.rows.getD i []) lost
 let S₁:=(S.uRows (S.rows.set i r))
 if says S (r.getD 0 0)=some true then (S₁,false)
 else match lY S r 2 (r.length-2) with
  | none=>(S₁,false)
  | some k=>(gq (S.uRows (S.rows.set i ((r.set 1 (r.getD k 0)).set k lost))) (r.getD k 0) i,true)
theorem oG(r:List Int)(l:Int):(dg r l).length=r.length:=by unfold dg;refine eC (λ V=>?_) λ V=>?_<;>simp
theorem Dr{α:Type}(xs:List α)(i:Nat)(x:α)(h:xs[i]? =some x):xs.set i x=xs:=by
 obtain ⟨hl,e⟩:=al.mp h
 exact dt e (List.set_getElem_self hl)
theorem j8{α:Type}{xs:List α}{x d:α}(h:xs[i]? =some x):xs.getD i d=x:=by rewrite [RT,h];rfl
theorem j7(xs:List Int)(i:Nat)(h:i<xs.length):xs[i]? =some (xs.getD i 0):=by rewrite [RT,aB h];rfl
noncomputable def wn(S:SS)(l:Int):SS:=((S.uSeen (S.seen+1)).uWatch (ins (del S.watch (-l)) (-l) []))
noncomputable def si(S:SS)(lost:Int)(rest:List Nat):SS:=(S.uWatch (ins S.watch lost ((lk S.watch lost).getD []++rest)))
theorem uy(h:(d3 S i lost).2=false):(d3 S i lost).1=(S.uRows (S.rows.set i (dg (S.rows.getD i []) lost))):=by
 unfold d3 at h⊢
 dsimp only at h⊢
 split at h
 ·rename_i hs;exact ah (if_pos hs) rfl
 ·rename_i hs
  refine ah (if_neg hs) ?_
  split at h
  ·rfl
  ·exact (v8 h).elim
theorem wv(S:SS)(i:Nat)(lost:Int):(d3 S i lost).1.seen=S.seen:=by
 unfold d3
 dsimp only
 refine eC (λ V=>?_) λ V=>?_
 ·rfl
 ·split at⊢<;>rfl
theorem Bx(S:SS)(i:Nat)(lost l:Int)(h:(lk S.watch l).isSome):(lk (d3 S i lost).1.watch l).isSome:=by
 unfold d3
 dsimp only
 refine eC (λ V=>?_) λ V=>?_
 ·exact h
 ·split at⊢
  ·exact h
  ·refine ((ah (eV ..) (eC (λ V=>?_) λ V=>?_)):(lk (ins S.watch _ _) l).isSome)
   ·rfl
   ·exact h
structure sH(J:SS->Prop)(M:SS->Int->List Nat->Nat->Prop)(P:SS->Nat->Prop):Prop where
 enter:∀S l,J S->nS S->S.row[S.seen]? =some l->((lk S.watch (-l)).getD []).length<=40000/\M (wn S l) (-l) ((lk S.watch (-l)).getD []) 0
 turn:∀S lost ns k i,M S lost ns k->nS S->ns[k]? =some i->∃r,S.rows[i]? =some r/\2<=r.length/\r.length<=100000/\(∀l∈r,-1000<=l/\l<=1000)/\Wz S 40000/\ns.length<=40000/\S.row.length<90000/\-1000<=lost/\lost<=1000/\Wz (d3 S i lost).1 40001/\
  ((d3 S i lost).2=true->M (d3 S i lost).1 lost ns (k+1))/\
  ((d3 S i lost).2=false->(says S ((dg r lost).getD 0 0)=some false->P (si (gq (d3 S i lost).1 lost i) lost (ns.drop (k+1))) i)/\
   (says S ((dg r lost).getD 0 0)=some true->M (gq (d3 S i lost).1 lost i) lost ns (k+1))/\
   (says S ((dg r lost).getD 0 0)=none->M (ln (gq (d3 S i lost).1 lost i) ((dg r lost).getD 0 0) (some i)) lost ns (k+1)))
 leave:∀S lost ns,M S lost ns ns.length->J S
end
end
section
section
variable{C:Cx}{F:dD}{n:Nat}{m:Str->Option Value}{U U' :AH}{Z Y Y' :List (Addr×Obj)}{s s' :aO}
noncomputable def WK(C:Cx)(F:dD)(n:Nat)(Vv:List Gl)(m:Str->Option Value)(U:AH)(Q:List Value->AH->Prop):Prop:=
 F.Ok C n->∀Z s pos W,cQ C F Z s m U->(∀vs s U,cQ C F Z s m U->Q (vs.map er) U->W vs s)->br (bR C.prog C.w) F.A (evalAll ((qA pos (kD Vv F.env)).map (·.2))) W (λ V V=>False) s
theorem FC{Q:List Value->AH->Prop}(h:Q [] U):WK C F n [] m U Q:=λ O Z s pos W R K=>kwAll_nil (K _ _ _ R h)
theorem ve{Q:List Value->AH->Prop}(h:WE C F n value m U λ v U1=>WK C F n rest m U1 λ vs Uq=>Q (v::vs) Uq):WK C F n (⟨some name,value,kp⟩::rest) m U Q:=λ O Z s pos W R K=>
 kwAll_cons (h O Z s _ R λ v s₁ U1 R₁ Ut=>Ut O Z s₁ pos _ R₁ λ vs s₂ Uq R₂ UL=>(K _ _ _ R₂ UL))
noncomputable def Ju(C:Cx)(F:dD)(n:Nat)(f:Value)(args:List Value)(names:List Str)(ks:List Value)(m:Str->Option Value)(U:AH)(Q:Value->AH->Prop):Prop:=
 ∀Us Zb,Us.map er=args->Zb.map er=ks->WO C F n (call f Us (names.zip Zb)) m U Q
theorem sC{Q:Value->AH->Prop}(hk:F.env.kindOf x=some .globalImplicit)(hx:pY C.K du x=some none)(hb:fU x=some (.builtin b))(hn:x≠ "__name__")(hd:(x==("__debug__":Str))=false)
  (he:∀env pos,fg pos (dj (e::rest) env)=(false,gb e env)::fg pos (dj rest env)) (hp:ip (e::rest)) (hnm:∀env pos,(qA pos (kD Vv env)).filterMap (·.1)=names) (hall:∀env pos,(qA pos (kD Vv env)).all (·.1.isSome)=true)
  (hany:∀env pos,(qA pos (kD Vv env)).any (·.1.isNone)=false)
  (h:WL C F n (e::rest) m U λ vs U1=>WK C F n Vv m U1 λ ks Uq=>Ju C F n (.builtin b) vs names ks m Uq (qe Q)):WE C F n (.Call (.Name x p) (e::rest) Vv pos) m U Q:=λ O Z s W R K=>by
 refine ((aj (eX O.ek hk (lV (ah O.eg (O.G.T.g.keeps R.keep)) (zj O.G.X O.G.T.g hx) (ah O.eb (O.G.T.b.keeps R.keep)) ((O.G.T.builtins x hn).trans hb) ?_) hd)):br _ _ (do lW pos (<-gb (.Name x p) F.env) [] (fg pos (dj (e::rest) F.env)) (qA pos (kD Vv F.env))) _ _ _)
 exact callWith_kw (ah (hnm ..) (h O Z s pos _ R λ vs s₁ U1 R₁ Ut=>Ut O Z s₁ pos _ R₁ λ ks s₂ Uq R₂ UL=>UL vs ks rfl rfl O Z s₂ _ R₂ K)) (he _ _) (hp _ _) (hall _ _) (hany _ _)
theorem xf{Q:Value->AH->Prop}(hk:F.env.kindOf x=some .globalImplicit)(hx:pY C.K du x=some none)(hb:fU x=some (.builtin b))(hn:x≠ "__name__")(hd:(x==("__debug__":Str))=false)
  (he:∀env pos,fg pos (dj (e::rest) env)=(false,gb e env)::fg pos (dj rest env)) (hp:ip (e::rest))
  (h:WL C F n (e::rest) m U λ vs U1=>WE C F n v1 m U1 λ k1 Uq=>Ju C F n (.builtin b) vs [n1] [k1] m Uq (qe Q)):WE C F n (.Call (.Name x p) (e::rest) [⟨some n1,v1,p1⟩] pos) m U Q:=
 sC hk hx hb hn hd he hp (λ V V=>rfl) (λ V V=>rfl) (λ V V=>rfl) λ O Z s pos W R K=>h O Z s pos _ R λ vs s' U' R' q=>(K _ _ _ R' (ve (q.mono λ v U h=>FC h)))
theorem xe{Q:Value->AH->Prop}(hk:F.env.kindOf x=some .globalImplicit)(hx:pY C.K du x=some none)(hb:fU x=some (.builtin b))(hn:x≠ "__name__")(hd:(x==("__debug__":Str))=false)
  (he:∀env pos,fg pos (dj (e::rest) env)=(false,gb e env)::fg pos (dj rest env)) (hp:ip (e::rest))
  (h:WL C F n (e::rest) m U λ vs U1=>WE C F n v1 m U1 λ k1 Uq=>WE C F n v2 m Uq λ k2 Ux=>Ju C F n (.builtin b) vs [n1,n2] [k1,k2] m Ux (qe Q)):WE C F n (.Call (.Name x p) (e::rest) [⟨some n1,v1,p1⟩,⟨some n2,v2,p2⟩] pos) m U Q:=
 sC hk hx hb hn hd he hp (λ V V=>rfl) (λ V V=>rfl) (λ V V=>rfl) λ O Z s pos W R K=>h O Z s pos _ R λ vs s' U' R' q=>(K _ _ _ R' (ve (q.mono λ v U h=>ve (h.mono λ v U h=>FC h))))
section
variable{prog:Program}{w:jk}{A:eN}{E:Value->aO->Prop}{s:aO}{h₀:Heap}{L:Addr}{m:Str->Option Value}{news:List (Addr×Obj)}{b:Bool}{Q:Value->aO->Prop}{X9:Value}
theorem uF{P:List Value->Prop}(F:Fr h₀ L s.heap m)(N:qC h₀ L s.heap news)
  (X3:∀(R:List Value->aO->Prop),(∀h' tk vs,(∀b o,s.heap.get? b=some o->h'.get? b=some o)->P vs->R vs {s with heap:=h',toks:=tk})->br (bR prog w) A.in1 (collect X9) R E s)
  (hP:∀vs,P vs->kz.length=vs.length/\vs.length<64)
  (Zj:Gb "sorted" ⟨[X9],kw⟩) (Yx:∀x,Gb "list.sort" ⟨[.ref x],kw⟩) (ht:∀x,eU.«list.sort» ⟨[.ref x],kw⟩=ksk_tree x f b)
  (turn:∀vs,P vs->∀(i:Nat) (v:Value) (k:Int),vs[i]? =some v->kz[i]? =some k->∀(h:Heap) (tk Zl :Nat) (own:List (Addr×Obj)),Fr h₀ L h m->qC h₀ L h (news++own)->
   br (bR prog w) A.in1.in1 (call f [v]) (KskEnd h₀ L m (news++own) k {s with heap:=h,toks:=tk}) (λ V V=>False) {s with heap:=h,toks:=tk})
  (h:∀vs,P vs->∀D h' tk out c,Fr h₀ L h' m->qC h₀ L h' ((D,f' "list" out c)::news)->(∀q∈news,q.1<D)->RU b kz vs out.toList->Q (.ref D) {s with heap:=h',toks:=tk}):
  br (bR prog w) A (call (.builtin "sorted") [X9] kw) Q E s:=by
 refine call_function_entry_kw Ua TF TK Zj ?_
 unfold eU.«sorted»
 refine aj (m:=zn "sorted" 1 1 _) (aD (aj (X3 _ λ h1 tk1 vs hk hp=>(aP (hP vs hp) λ hlen h64=>(aj (na ?_ (ah b_ (aG (ai h64 (af _ _))))))))))
 have hoL:(h1.push (f' "list" vs.toArray 0)).get? h1.objs.size=some (f' "list" vs.toArray 0):=bp _ rfl
 have keep:∀b o,s.heap.get? b=some o->(h1.push (f' "list" vs.toArray 0)).get? b=some o:=λ b o q=>bb _ (hk b o q)
 have hlt:∀b o,s.heap.get? b=some o->b<h1.objs.size:=λ b o q=>bT (hk b o q)
 refine pG F.ns λ oL V V V_ V V=>?_
 have hL:L<h1.objs.size:=hlt _ _ V_
 refine aj (cR (wpAny_call_entry_kw RF ⟨_,hoL,rfl⟩ PC ?body (Yx _)))
 have ht' :=ht h1.objs.size
 refine ((ah ht' ?_):br (bR prog w) A.in1.in1 (eU.«list.sort» ⟨[.ref h1.objs.size],kw⟩) _ _ _)
 exact ksk_sort (s:={s with heap:=h1.push (f' "list" vs.toArray 0),toks:=tk1})
  (F.kept keep) (N.grown keep) hoL (cj hL) (Heap.get?_none_of_le (ac F.above (aG hL)))
  (λ p hp=>bP (hlt _ _ (N p hp).1)) hlen h64 (λ i v k hv hkz hh tk own F' N' =>turn vs hp i v k hv hkz hh tk tk1 own F' N') λ h' tk out c F' N' k' =>⟨_,rfl,(aD ⟨_,rfl,h vs hp _ h' tk out c F' N' (λ q hq=>hlt _ _ (N q hq).1) k'⟩)⟩
end
noncomputable abbrev Fb(F:dD)(A:eN):dD:={F with A:=A,env:={F.env with locals:=F.L,scope:={F.env.scope with names:=[]}},oL:=none,cells:=[]}
theorem OU(O:F.Ok C (k+1))(h1:A.frames=F.A.frames)(h2:A.handled=none)(h3:A.depth<=F.A.depth+3)(h4:A.units<=F.A.units+10):(Fb F A).Ok C k:=
 ⟨O.B,h1.trans O.hA,O.hf,O.hk,O.G,O.ek,O.eg,O.eb,λ V=>rfl,(λ h=>nomatch h),h2,.nil,(λ V h=>nomatch h),(λ V V h=>nomatch h),(λ x h=>by rcases h with h | h<;>exact (bH h).elim),by have:=O.depth;exact ((au (bA h3 _) (ya (bW _ _ _) this)):A.depth+3*k<_),by have:=O.units;exact ((au (bA h4 _) (ya (bW _ _ _) this)):A.units+10*k<_)⟩
theorem Ea{mL:Str->Option Value}(O:F.Ok C (k+1))(h1:A.frames=F.A.frames)(h2:A.handled=none)(h3:A.depth<=F.A.depth+3)(h4:A.units<=F.A.units+10)
  (FR:Fr F.h₀ F.L h mL) (N:qC F.h₀ F.L h need) (core:oP C s) (W7:AH) (ZA:∀a o,W7.get a=some o->∃ob v,o=.ro ob v/\(a,ob)∈need/\At C h a v/\3<a) (hq:(q,kq (.ref f) (.ref self))∈need)
  (hw:WC C k f [.ref self,er v] W7 λ r U' =>r=vi key/\U' =W7):
  br (bR C.prog C.w) A (call (.ref q) [v]) (KskEnd F.h₀ F.L mL need key {s with heap:=h,toks:=tk}) (λ V V=>False) {s with heap:=h,toks:=tk}:=by
 let Z2:=need.filter λ p=>(W7.get p.1).isNone
 have R₂:cQ C (Fb F A) Z2 {s with heap:=h,toks:=tk} (λ V=>none) W7:=by
  refine ⟨core.upd,⟨mL,FR⟩,(λ V h=>nomatch h),⟨mL,FR.ns⟩,(λ V V h=>nomatch h),(λ V h=>nomatch h),(λ V h=>nomatch h),λ p hp=>?_,λ a o e=>?_,λ a o e=>?_⟩
  ·exact aP (bx.mp hp) λ UO hp2=>(ck (N p UO) λ a b c=>(ge a b c (by simpa using hp2)))
  ·refine jo (ZA a o e) λ ob v Uv hm ha V=>?_;subst Uv
   exact ck (N _ hm) λ x y z=>(dn ⟨⟨_,x⟩,y,z⟩ x ha)
  ·refine jo (ZA a o e) λ ob v Uy hm ha h3=>?_;subst Uy;exact h3
 refine Lu (method_call (N _ hq).1 (eS (hw _ Z2 _ _ [.ref self,v] (OU O h1 h2 h3 h4) R₂ rfl) λ r s' UO=>?_))
 (try clear hw);obtain ⟨v',U',hr,R',⟨e,ZT⟩,FE⟩:=UO
 (try clear hw);subst hr ZT
 refine aS (nH e) λ t' UB=>?_;subst UB
 refine t6 s'.heap s'.toks t' ?_ rfl (FE mL FR) (λ p hp=>?_)
 ·obtain ⟨g1,g2,g3⟩:=core
  obtain ⟨e1,e2,e3⟩:=R'.core
  obtain ⟨a,b,c,d,e⟩:=s'
  (try clear R');obtain ⟨a',b',c',d',e'⟩:=s
  dsimp only at*
  clear R₂;subst e1 e2 e3 g1 g2 g3
  rfl
 ·cases hs:U'.get p.1 with
  | none=>
   refine fE (R'.zz p (bx.mpr ⟨hp,ah hs rfl⟩)) λ a b c V=>?_
   exact dn a b c
  | some o=>
   refine jo (ZA _ o hs) λ ob v UC hm ha V=>?_;subst UC
   refine ck (N _ hm) λ x y z=>(ck (N _ hp) λ x' y' z' =>(ck (R'.sg _ _ hs) λ UF w V=>(ck UF λ V b c=>?_)));clear UF
   replace x' :=x▸x'
   exact dt (bq x') (dn w b c)
noncomputable def DA(U:AH)(h:Heap)(as:List Addr):AH:=as.filterMap λ a=>match U.get a,h.get? a with
 | some v,some ob=>some (a,.ro ob v)
 | _,_=>none
set_option tactic.hygienic true in
theorem Dz(as:List Addr)(e:(DA U h as).get a=some o):∃ob v,o=.ro ob v/\U.get a=some v/\h.get? a=some ob:=by
 induction as with
 | nil=>exact (bH e).elim
 | cons b as ih=>
  unfold DA at e
  replace e:=dO▸e
  split at e
  ·exact ih e
  ·rename_i p hp
   split at hp
   ·rename_i v ob h1 h2
    have UP:=sI hp;clear hp;subst UP
    unfold AH.get at e
    rewrite [bv] at e
    split at e
    ·rename_i hab
     (try clear ih);have UQ:=sI e;clear e;subst UQ
     exact ah (df hab) (jG ob v rfl h1 h2)
    ·exact ih e
   ·exact (bH hp).elim
set_option tactic.hygienic true in
theorem Dy(as:List Addr)(hm:a∈as)(h1:U.get a=some v)(h2:h.get? a=some ob):(DA U h as).get a=some (.ro ob v):=by
 induction as with
 | nil=>cases hm
 | cons b as ih=>
  unfold DA
  refine ah dO ?_
  by_cases e:a=b
  ·(try clear hm);subst e
   simp only [h1,h2]
   unfold AH.get
   exact ae bv (ah (beq_self_eq_true ..) rfl)
  ·have Vo :a∈as:=(aM.mp hm).resolve_left e
   split at⊢
   ·exact ih Vo
   ·rename_i p hp
    split at hp
    ·have UT:=sI hp;clear hp;subst UT
     unfold AH.get
     exact ae bv (ah (beq_false_of_ne e) (ih Vo))
    ·exact (bH hp).elim
noncomputable def qu(b:Bool)(kz:List Int)(xs ys:List Value):Prop:=RU b kz xs ys
theorem qu.er(h:RU b kz vs out):RU b kz (vs.map Mine.er) (out.map Mine.er):=by
 refine cX h λ ps hp e ho=>?_;clear h
 refine fV (ps.map λ p=>(p.1,Mine.er p.2)) ?_ ?_ ?_
 ·have:=hp.map λ p:Int×Value=>(p.1,Mine.er p.2)
  replace this:=(show (kz.zip vs).map (λ p:Int×Value=>(p.1,Mine.er p.2))=kz.zip (vs.map Mine.er) from ah kM rfl)▸this
  exact this
 ·exact ah e (ae bI (ah bI rfl))
 ·exact gk cE ho
theorem Mz(A:eN):A.in1.in1.frames=A.frames/\(A.handled=none->A.in1.in1.handled=none)/\A.in1.in1.depth<=A.depth+3/\A.in1.in1.units<=A.units+10:=⟨rfl,λ h=>h,ax _ _,by refine (?_:A.units+_+_<=_);exact ac (aQ (aK _)) (aJ (af _ _) _)⟩
theorem sq{as:List Addr}{Q:Value->AH->Prop}(hl:U.rd l=some (.list xs))(hq:U.get q=some (.raw (kq (.ref f) (.ref self))))(hlen:kz.length=xs.length)(h64:xs.length<64)
  (has:∀a∈as,∃v,U.get a=some v)
  (hw:∀W7:AH,(∀a∈as,W7.rd a=U.get a)->∀(i:Nat) (v:Value) (key:Int),xs[i]? =some v->kz[i]? =some key->WC C k f [.ref self,v] W7 λ r U' =>r=vi key/\U' =W7)
  (h:∀D ys,qu b kz xs ys->U.get D=none->Q (.ref D) (U.put D (.list ys))):
  Ju C F (k+1) (.builtin "sorted") [.ref l] [bg "key",bg "reverse"] [.ref q,.bool b] m U (qe Q):=λ Us Zb f1 f2 O Z s W R K=>by
 refine aH (uc f1) λ a' U9 e1=>?_;subst U9
 refine gJ (AG f2) λ q' b' UM e2 e3=>?_;subst UM
 clear f1 f2
 refine lA e1 (lA e2 (Gp e3 (cu (R.at hl) λ vs c hv hx=>?_)))
 have hL:s.heap.IsList l vs.toArray:=⟨_,hv,rfl,_,rfl⟩
 have hlen' :=eK hx
 refine cX (R.viaNews O) λ mL FR N back=>?_
 have hqm:(q,kq (.ref f) (.ref self))∈led F Z U s.heap:=ak _ (bX.mpr ⟨AH.dom' hq,(R.sg _ _ hq).2⟩)
 refine ksk_sorted (kz:=kz) FR N hL (a_ (ac (aC hlen) (xb hlen' (aw _))) (ac (aC hlen') (xb hlen (aw _)))) (au (aC hlen') h64) (ksk_s2 _ _ _) (λ x=>ksk_l2 _ _ _) (λ x=>ksk_t2 _ _ _) (λ i v key Yc hki hh tk own F' N' =>?_) λ D h' tk out c F' N' l1 ko=>?_
 ·refine fE (Mz F.A) λ g1 g2 g3 g4=>(Ea O g1 (g2 O.handled) g3 g4 F' N' R.core (DA U s.heap as) (λ a o e=>?_) (av _ ?_) (hw _ (λ a ha=>?_) i (er v) key (dt hx (ae ay (ah Yc rfl))) hki))
  ·refine gJ (Dz _ e) λ ob v UW x1 x2=>?_;subst UW
   have hm:(a,ob)∈led F Z U s.heap:=ak _ (bX.mpr ⟨AH.dom' x1,x2⟩)
   refine pE ob v rfl (av _ hm) ((R.sg _ _ x1).2.keep λ o ho=>?_) (R.sm _ _ x1)
   replace ho:=x2▸ho;clear e x2;have UV:=sI ho;clear ho;subst UV
   exact (N' _ (av _ hm)).1
  ·exact ak _ (bX.mpr ⟨AH.dom' hq,(R.sg _ _ hq).2⟩)
  ·refine aS (has a ha) λ v hv=>(aP (R.sg _ _ hv) λ U8 V=>(aP U8 λ VL V=>?_));clear U8;obtain ⟨ob,x⟩:=VL
   refine ah hv ?_
   unfold AH.rd
   exact ah (Dy _ ha hv x) rfl
 ·have hA:At C h' D (.list (out.toList.map er)):=⟨out.toList,c,by have:=(N' _ (.head _)).1;exact ah jF this,rfl⟩
  exact aP (back {s with heap:=h',toks:=tk} D _ _ ⟨R.core.gens,R.core.os,R.core.dr⟩ F' N' l1 (bz (R.sm _ _ hq) (l1 _ hqm)) hA) λ R' hn=>(K _ _ _ R' (h _ _ (hx▸qu.er ko) hn))
theorem DK{x Cl dx f:Addr}{Q:Value->AH->Prop}(hx:U.get x=some (.inst Cl dx))(hd:U.get dx=some (.ns fs))(hl:nsLook attr fs=none)
  (hC:vm C.K Cl) (hM:xm C.K Cl attr f) (hgf:specialIn C.K (.ref f) "__get__"=some (some (.builtin "function.__get__"))) (ht:takesIn C.K (.ref f)=some false) (hc:copiedNames.contains attr=false)
  (h:∀D,U.get D=none->Q (.ref D) (U.put D (.raw (kq (.ref f) (.ref x))))):WV C F n (λ o=>xG o attr true) (.ref x) m U (qe Q):=λ a ha O Z s W R K=>by
 refine lA ha (cu ((R.sg _ _ hd).2) λ es k he hes=>?_)
 have hg:=hes.getL attr
 replace hg:=hl▸hg
 refine cX (R.viaNews O) λ mL FR N back=>(aP ((R.sg _ _ hx).1) λ U7 V=>(aS U7 λ ob hxo=>?_));clear U7
 have hxm:(x,ob)∈led F Z U s.heap:=ak _ (bX.mpr ⟨AH.dom' hx,hxo⟩)
 exact kbm_bound FR O.G.X N (oE (R.sg _ _ hx).2 he) (hC.pg _) hC.hd hM.at_ hM.fn hgf ht hc hg λ q h' F' N' l1=>(aP (back {s with heap:=h',toks:=s.toks+1} q _ (.raw (kq (.ref f) (.ref x))) ⟨R.core.gens,R.core.os,R.core.dr⟩ F' N' l1 (bz (R.sm _ _ hx) (l1 _ hxm)) (N' _ (.head _)).1) λ R' hn=>(K _ _ _ R' (h _ hn)))
theorem tc{Q:Value->AH->Prop}(hd:U.get d=some (.dict kvs))(h64:kvs.length<64)
  (h:∀D ys,qu false (kvs.map λ p=>(p.1.natAbs:Int)) (kvs.map λ p=>vi p.1) ys->U.get D=none->Q (.ref D) (U.put D (.list ys))):
  Ju C F n (.builtin "sorted") [.ref d] [bg "key"] [.builtin "abs"] m U (qe Q):=λ Us Zb f1 f2 O Z s W R K=>by
 refine aH (uc f1) λ a' Ve e1=>?_;subst Ve
 refine aH (uc f2) λ q' Vk e2=>?_;subst Vk
 clear f1 f2
 refine lA e1 ?_
 have e3:q' =.builtin "abs":=by
  cases q' with
  | builtin=>exact e2
  | _=>exact (cI mj e2 rfl).elim
 (try clear e2);subst e3
 refine aH ((R.sg _ _ hd).2) λ UA hm hx=>?_
 have hlen:UA.length=kvs.length:=dt hx (ah (ag ..) rfl)
 have hkey:UA.map (·.1)=kvs.map (·.1):=dt hx (ah bI rfl)
 refine cX (R.viaNews O) λ mL FR N back=>(aP ((R.sg _ _ hd).1) λ Vg V=>(aS Vg λ ob hdo=>?_));clear Vg
 have hdm:(d,ob)∈led F Z U s.heap:=ak _ (bX.mpr ⟨AH.dom' hd,hdo⟩)
 refine pH hm λ o' es ep ZD Zf=>?_;clear hm
 have hDA:s.heap.DictAt (iF C.prog C.w) d UA ep:=⟨o',es,ZD,Zf⟩
 have hnum:∀vs:List Value,vs.map er=(kvs.map λ p=>vi p.1)->∀(i:Nat) (v:Value) (k:Int),vs[i]? =some v->(kvs.map λ p=>(p.1.natAbs:Int))[i]? =some k->∃j t,v=.int j t/\k=(j.natAbs:Int):=by
  intro vs hv i v k Yc hki
  replace hki:=ay▸hki
  cases hp:kvs[i]? with
  | none=>replace hki:=hp▸hki;exact (bH hki).elim
  | some p=>
   replace hki:=hp▸hki
   have e:(vs.map er)[i]? =some (vi p.1):=ah hv (ae ay (ah hp rfl))
   replace e:=Yc▸ay▸e
   (try clear Yc);refine aS (nH (bq e)) λ t Vs=>?_;subst Vs
   exact ib p.1 t rfl ((bq hki).symm)
 refine uF (kz:=kvs.map λ p=>(p.1.natAbs:Int)) (P:=λ vs=>vs.map er=kvs.map λ p=>vi p.1) FR N (λ K hR=>?_) (λ vs hv=>?_) (ksk_s1 _ _) (λ x=>ksk_l1 _ _) (λ x=>ksk_t4 _ _) (λ vs hv i v key Yc hki hh tk Zl own F' N' =>?_) λ vs hv D h' tk out c F' N' l1 ko=>?_
 ·refine Ub (kdl_dict (knd:=iF C.prog C.w) (ep:=ep) (kvs:=UA) (R.notSys hd)) O.handled hDA (ah b_ (aG (ai (ya hlen h64) (ac (aw _) (af _ _))))) λ h' tk Ur hk hacc=>hR h' tk _ hk ?_
  refine aP hacc λ hsz hit=>?_;clear hacc
  refine Gj λ i=>(ae ay (ah ay (dt hx (ah ay ?_))))
  by_cases hi:i<Ur.size
  ·have h2:Ur.toList[i]? =some Ur[i]:=ae c_ (cq hi)
   exact cu (hit i Ur[i] (cq hi)) λ k x q1 q2=>(ah h2 (ah q1 (aS (Value.isInt_shape q2) λ t e=>(ah e rfl))))
  ·have h2:Ur.toList[i]? =none:=ae c_ (xB (b0 hi))
   have h3:UA[i]? =none:=bD (ac (xb hsz (aw _)) (b0 hi))
   exact ah h2 (ah h3 rfl)
 ·have:=eK hv
  rw [ag] at this⊢
  exact bt (dc this) (ya this h64)
 ·refine cu (hnum vs hv i v key Yc hki) λ j t Vr Vq=>?_;subst Vr;subst Vq
  refine TN λ u tk2=>?_
  have e:(if j<0 then-j else j)=(j.natAbs:Int):=by refine eC (λ V=>?_) λ V=>?_<;>lia
  exact ah e (KskEnd.intro (s₁:={s with heap:=hh,toks:=tk}) F' N' (λ p hp=>hp))
 ·have hA:At C h' D (.list (out.toList.map er)):=⟨out.toList,c,by have:=(N' _ (.head _)).1;exact ah jF this,rfl⟩
  exact aP (back {s with heap:=h',toks:=tk} D _ _ ⟨R.core.gens,R.core.os,R.core.dr⟩ F' N' l1 (bz (R.sm _ _ hd) (l1 _ hdm)) hA) λ R' hn=>(K _ _ _ R' (h _ _ (hv▸qu.er ko) hn))
end
end
section
section
variable{C:Cx}{F:dD}{n:Nat}{m:Str->Option Value}{U U' :AH}{X:Sx}{A A' :Ad}{S S' :SS}{me:Addr}{E E' :List (Addr×ba)}
theorem rP{Q:Value->AH->Prop}(T:St me A S U E)(hd:(d,.dict kvs)∈E)(h64:kvs.length<64)
  (h:∀D ys U',qu false (kvs.map λ p=>(p.1.natAbs:Int)) (kvs.map λ p=>vi p.1) ys->ys.length<=1000->St me A S U' ((D,.list ys)::E)->Q (.ref D) U'):
  Ju C F n (.builtin "sorted") [.ref d] [bg "key"] [er (.builtin "abs")] m U (qe Q):=
 tc (T.at_ hd) h64 λ D ys hk hD=>h D ys _ hk (by refine cX hk λ ps hp Uv V=>?_;clear hk;subst Uv;have:=hp.length_eq;simp at this⊢;exact aG (ai (ya this h64) (ac (aw _) (af _ _)))) (T.fresh hD)
end
section
variable{C:Cx}{F:dD}{n:Nat}{m:Str->Option Value}{U U' :AH}{X:Sx}{A A' :Ad}{S S' :SS}{me:Addr}{E E' :List (Addr×ba)}
noncomputable abbrev pr(f:List Int):List (Int×Value):=f.map λ k=>(k,.bool true)
theorem As(f:List Int)(k:Int):(iV (pr f) k).isSome=decide (k∈f):=by
 unfold iV dE
 induction f with
 | nil=>rfl
 | cons x f ih=>
  simp only [aU,iH] at ih⊢
  by_cases h:x=k
  ·(try clear ih);subst h;simp
  ·have h' :¬k=x:=λ e=>h e.symm
   simp only [h,decide_false];refine ae ih ?_;simp [h']
theorem tG(f:List Int)(k:Int):dM (pr f) k (.bool true)=pr (if k∈f then f else f++[k]):=by
 by_cases h:k∈f
 ·refine ah (if_pos h) ?_
  unfold dM
  have:(pr f).any (λ p=>decide (p.1=k))=true:=gk dK (bY (k,.bool true) (aF.mpr ⟨k,h,rfl⟩) (by simp))
  refine ae (if_pos this) (ae bI (dq λ x hx=>(?_:(if x=k then _ else _)=_)))
  by_cases e:x=k<;>simp [e]
 ·refine ah (if_neg h) (ae (lI _ _ _ (ah bI (ah (show ((λ x:Int×Value=>x.1)∘λ k:Int=>(k,cf true))=id from rfl) (ah (sM ..) h)))) ?_)
  simp
noncomputable def vk(ls c:List Int):Prop:=c.Nodup/\(∀x,x∈c↔x∈ls)/\c.Pairwise λ x y=>x.natAbs<=y.natAbs
theorem qu.ints(h:qu false ((pr f).map λ p=>(p.1.natAbs:Int)) ((pr f).map λ p=>vi p.1) ys)(hn:f.Nodup):∃c:List Int,ys=c.map vi/\c.Perm f/\c.Pairwise λ x y=>x.natAbs<=y.natAbs:=by
 refine cX h λ ps hp Uy ho=>?_;clear h;subst Uy
 have e:((pr f).map λ p=>(p.1.natAbs:Int)).zip ((pr f).map λ p=>vi p.1)=f.map λ k=>((k.natAbs:Int),vi k):=ah bI (ah bI (ae vO rfl))
 replace hp:=e▸hp
 have hv:∀p∈ps,∃k,p=((k.natAbs:Int),vi k):=λ p hm=>by
  refine aH (aF.mp (hp.mem_iff.mp hm)) λ k V UB=>?_;subst UB;exact ⟨k,rfl⟩
 let g:Int×Value->Int:=λ p=>match p.2 with | .int j _=>j | _=>0
 have hg:∀p∈ps,vi (g p)=p.2/\p.1=((g p).natAbs:Int):=λ p hm=>by refine aS (hv p hm) λ k UC=>?_;subst UC;exact ⟨rfl,rfl⟩
 refine fV (ps.map g) ?_ ?_ ?_
 ·exact ah bI (dq λ p hm=>(hg p hm).1.symm)
 ·have:=hp.map g
  replace this:=bI▸this
  replace this:=(sM ..)▸(show (g∘λ k:Int=>((k.natAbs:Int),vi k))=id from rfl)▸this
  exact this
 ·refine gk cE (ho.imp_of_mem λ{p q} h1 h2 h=>?_)
  simp only [aV,if_false] at h
  replace h:=(hg q h2).2▸(hg p h1).2▸h
  exact bU.mp h
end
end
section
section
variable{C:Cx}{F:dD}{n:Nat}{m:Str->Option Value}{U U' :AH}{X:Sx}{A A' :Ad}{S S' :SS}{me:Addr}{E E' :List (Addr×ba)}
end
section
variable{C:Cx}{F:dD}{n:Nat}{m:Str->Option Value}{U U' :AH}{X:Sx}{A A' :Ad}{S S' :SS}{me:Addr}{E E' :List (Addr×ba)}
theorem wH{α:Type}:∀(r:List (Int×α)) (l:Int) (v:α),(lk r l).isSome->(ins r l v).map (·.1)=r.map (·.1)
 | [],l,v,h=>(iP h).elim
 | (k,w)::r,l,v,h=>by
  unfold lk at h
  unfold ins
  by_cases e:k=l
  ·exact ah (if_pos e) rfl
  ·rw [if_neg e] at h⊢;exact ae aU (ah aU (ah (wH r l v h) rfl))
theorem tN{α:Type}:∀{r:List (Int×α)} {i:Nat} {u:Int} {y:α},kA r->r[i]? =some (u,y)->lk r u=some y
 | [],i,u,y,_,h=>(bH h).elim
 | (k,w)::r,0,u,y,_,h=>by have Uv:=sI h;clear h;cases Uv;unfold lk;exact ae (if_pos rfl) rfl
 | (k,w)::r,i+1,u,y,hn,h=>by
  have h' :r[i]? =some (u,y):=h
  unfold lk
  have hne:¬k=u:=λ e=>(aY.mp hn).1 (aF.mpr ⟨(u,y),am h',e.symm⟩)
  exact ae (if_neg hne) (tN (aY.mp hn).2 h')
end
end
section
section
variable{C:Cx}{F:dD}{n:Nat}{m:Str->Option Value}{U U' :AH}{X:Sx}{A A' :Ad}{S S' :SS}{me:Addr}{E E' :List (Addr×ba)}
end
section
variable{C:Cx}{F:dD}{n:Nat}{m:Str->Option Value}{U U' :AH}{X:Sx}{A A' :Ad}{S S' :SS}{me:Addr}{E E' :List (Addr×ba)}
noncomputable def Tw(S S' :SS):Prop:=∃hs g,hs.map (·.1)=S.heats.map (·.1)/\S' =((S.uHeats hs).uGain g)
noncomputable def dC(S:SS)(Uz:Int):List Int×List Int×Nat->Int->List Int×List Int×Nat:=λ t l=>
 if l≠Uz/\(l.natAbs:Int)∉t.1/\0<(lk S.heights l.natAbs).getD 0 then
  if (lk S.heights l.natAbs).getD 0=S.begins.length then (t.1++[(l.natAbs:Int)],t.2.1,t.2.2+1) else (t.1++[(l.natAbs:Int)],t.2.1++[l],t.2.2)
 else t
structure kh(S:SS)(L:List Int->List Int->Nat->Nat->Int->Nat->Prop)(P:List Int->Prop):Prop where
 turn:∀mk bh o sp Uz number,L mk bh o sp Uz number->∃r,S.rows[number]? =some r/\r.length<=10000/\mk.length<=10000/\bh.length<=10000/\sp<=S.row.length/\
  (∀l∈r,(lk S.heights l.natAbs).isSome/\(lk S.heats l.natAbs).isSome)/\
  ∃j l,j<sp/\S.row[j]? =some l/\(l.natAbs:Int)∈(r.foldl (dC S Uz) (mk,bh,o)).1/\(∀i l',j<i->i<sp->S.row[i]? =some l' ->(l'.natAbs:Int)∉(r.foldl (dC S Uz) (mk,bh,o)).1)/\
   0<(r.foldl (dC S Uz) (mk,bh,o)).2.2/\((r.foldl (dC S Uz) (mk,bh,o)).2.2=1->P ((-l)::(r.foldl (dC S Uz) (mk,bh,o)).2.1))/\
   ((r.foldl (dC S Uz) (mk,bh,o)).2.2≠1->∃c,lk S.causes l.natAbs=some (some c)/\L (r.foldl (dC S Uz) (mk,bh,o)).1 (r.foldl (dC S Uz) (mk,bh,o)).2.1 ((r.foldl (dC S Uz) (mk,bh,o)).2.2-1) j l c)
theorem tL(S:SS)(p:Int):∀(r:List Int) (t:List Int×List Int×Nat),(r.foldl (dC S p) t).1.length<=t.1.length+r.length/\(r.foldl (dC S p) t).2.1.length<=t.2.1.length+r.length
 | [],t=>⟨aw _,aw _⟩
 | l::r,t=>by
  refine aP (tL S p r (dC S p t l)) λ h1 h2=>(ah fC (ah bM ?_))
  have:(dC S p t l).1.length<=t.1.length+1/\(dC S p t l).2.1.length<=t.2.1.length+1:=by
   unfold dC
   refine eC (λ V=>?_) λ V=>?_
   ·refine eC (λ V=>?_) λ V=>?_<;>simp
   ·simp
  exact MJ this h1 h2
end
end
section
section
variable{C:Cx}{F:dD}{n:Nat}{m:Str->Option Value}{U U' :AH}{X:Sx}{A A' :Ad}{S S' :SS}{me:Addr}{E E' :List (Addr×ba)}
theorem yr{x Cl dx:Addr}{Q:Value->AH->Prop}(hx:U.rd x=some (.inst Cl dx))(hd:U.rd dx=some (.ns fs))(hl:nsLook attr fs=some v)
  (hC:vm C.K Cl) (hn:ni C.K (.ref Cl) attr=some none) (hv:qy v=true) (h:Q v U):WV C F n (λ o=>xG o attr true) (.ref x) m U (qe Q):=λ a ha O Z s W R K=>by
 refine ah (eI ha) (cu (R.at hd) λ es k he hes=>?_)
 have hg:=hes.getL attr
 replace hg:=hl▸hg
 (try clear hl);refine aH hg λ cv e V8 =>?_;clear hg
 (try clear hl);subst e
 exact aS R.fr λ mL FR=>(get_own FR O.G.X (oE (R.at hx) he) (hC.pg _) hC.hd hn rfl V8 (tW hv) (K _ _ _ (R.toks O) h))
theorem yH(p:iu):specialIn (KK p) (.ref 170) "__get__"=some (some (.builtin "function.__get__")):=by rfl
theorem BN(p:iu):takesIn (KK p) (.ref 170)=some false:=by rfl
theorem Cc{Q:Value->AH->Prop}(T:St me A S U E)(hm:m x=some (.ref me))(h:∀D U',St me A S U' ((D,.raw (kq (.ref 170) (.ref me)))::E)->Q (.ref D) U'):
  WE (CX X) F n (.Attribute (.Name x p) "height_of" pos) m U Q:=by
 refine vg (u9 _ _ _ _ _) (f_ hm ?_)
 have hs:=T.self
 (try clear hm);subst hs
 exact DK (T.has .self rfl) (T.has .ns rfl) rfl (Bp _) (uB _) (yH _) (BN _) (by decide) λ D hD=>h D _ (T.fresh hD)
theorem vh{Q:Value->AH->Prop}(h1:U.rd me=some (.inst 220 ns))(h2:U.rd ns=some (.ns fs))(h3:nsLook "heights" fs=some (.ref H))(h4:U.rd H=some (.dict kv))(h5:iV kv l.natAbs=some (vi k))(h:Q (vi k) U):
  WC (CX X) (n+1) 170 [.ref me,vi l] U Q:=by
 refine FQ (names:=["self","literal"]) rfl rfl rfl (λ vs h=>by refine fM (ma h) λ V V Uv=>?_;subst Uv;rfl) (by decide) (by decide) (by decide) rfl rfl rfl ?_
 intro b
 refine pT (ud (FD (λ V V=>⟨_,rfl⟩) (vg (u9 _ _ _ _ _) (f_ rfl (yr h1 h2 h3 (Bp _) (yN _) rfl (sD rfl (Kc _) KT (by decide) rfl (λ V V=>rfl) (jj (λ V=>rfl) (f_ rfl (oN (EY (pC h4 h5 ?_)))))))))))
 intro v' e
 exact ((ah e h):Q (er v') U)
theorem qu.lits{g:Int->Int}(h:qu true (t.map g) (t.map vi) ys):∃c:List Int,ys=c.map vi/\c.Perm t/\c.Pairwise λ x y=>g y<=g x:=by
 refine cX h λ ps hp Uy ho=>?_;clear h;subst Uy
 have e:(t.map g).zip (t.map vi)=t.map λ k=>(g k,vi k):=ae vO rfl
 replace hp:=e▸hp
 let u:Int×Value->Int:=λ p=>match p.2 with | .int j _=>j | _=>0
 have hg:∀p∈ps,vi (u p)=p.2/\p.1=g (u p):=λ p hm=>by
  refine aH (aF.mp (hp.mem_iff.mp hm)) λ k V UB=>?_;subst UB;exact ⟨rfl,rfl⟩
 refine fV (ps.map u) ?_ ?_ ?_
 ·exact ah bI (dq λ p hm=>(hg p hm).1.symm)
 ·have:=hp.map u
  replace this:=bI▸this
  replace this:=(sM ..)▸(show (u∘λ k:Int=>(g k,vi k))=id from rfl)▸this
  exact this
 ·refine gk cE (ho.imp_of_mem λ{p q} h1 h2 h=>?_)
  simp only [if_true] at h
  replace h:=(hg q h2).2▸(hg p h1).2▸h
  exact h
noncomputable def md(S:SS)(l:Int):Nat:=(lk S.heights l.natAbs).getD 0
theorem q_{Q:Value->AH->Prop}(T:St me A S U E)(hl:(l,.list (t.map vi))∈E)(hq:(q,.raw (kq (.ref 170) (.ref me)))∈E)(h64:t.length<64)(hh:∀x∈t,(lk S.heights x.natAbs).isSome)
  (h:∀D (τ:List Int) U',τ.Perm t->τ.Pairwise (λ x y=>md S y<=md S x)->St me A S U' ((D,.list (τ.map vi))::E)->Q (.ref D) U'):
  Ju (CX X) F (n+1+1) (.builtin "sorted") [.ref l] [bg "key",bg "reverse"] [.ref q,.bool true] m U (qe Q):=by
 have hs:=T.self
 refine sq (as:=[me,A .ns,A .heights]) (kz:=t.map λ x=>(md S x:Int)) (e0 (T.at_ hl) (by intro _ _ h;cases h)) (T.at_ hq) (ae (ag ..) (ah (ag ..) rfl)) (ah (ag ..) h64) (λ a ha=>?_) (λ W7 hr i v key hv hk=>?_) λ D ys hk hD=>?_
 ·simp only [aM,dB,or_false] at ha
  clear h hq;rcases ha with rfl | rfl | rfl
  ·exact ⟨_,hs▸T.has .self rfl⟩
  ·exact ⟨_,T.has .ns rfl⟩
  ·exact ⟨_,T.has .heights rfl⟩
 ·rw [ay] at hv hk
  cases ht:t[i]? with
  | none=>replace hv:=ht▸hv;exact (bH hv).elim
  | some x=>
   rw [ht] at hv hk
   obtain rfl:=bq hv
   obtain rfl:=bq hk
   refine aS (cz.mp (hh x (am ht))) λ y hy=>?_
   have e:md S x=y:=by unfold md;exact ah hy rfl
   refine vh (ns:=A .ns) (H:=A .heights) (fs:=fields A S) (kv:=mh vn S.heights) ?_ ?_ rfl ?_ ?_ ⟨rfl,rfl⟩
   ·exact ae (hr me (by simp)) (dt hs (T.has .self rfl))
   ·exact ae (hr _ (by simp)) (T.has .ns rfl)
   ·exact ae (hr _ (by simp)) (T.has .heights rfl)
   ·exact ae (gL ..) (ah hy (((ah e rfl):some (vn y)=some (vi (md S x:Int)))))
 ·refine cX (qu.lits (g:=λ x=>(md S x:Int)) hk) λ τ UC h1 h2=>?_;subst UC
  exact h D τ _ h1 (h2.imp λ h=>bU.mp h) (T.fresh hD)
end
section
variable{C:Cx}{F:dD}{n:Nat}{m:Str->Option Value}{U U' :AH}{X:Sx}{A A' :Ad}{S S' :SS}{me:Addr}{E E' :List (Addr×ba)}
noncomputable def mT(S:SS)(d:Int)(c τ:List Int):SS:=match τ with
 | []=>ln (cP (S.uLog (S.log++[c])) 0) d none
 | x::_=>ln (iy (cP (S.uLog (S.log++[c])) (md S x)) (d::τ)) d (some S.rows.length)
theorem su(S:SS)(k:Nat):(cP S k).rows=S.rows:=by
 unfold cP
 split at⊢
 ·rfl
 ·refine kJ (io (S.row.length-‹Nat›) S) λ V V V e=>?_;exact ah e rfl
theorem qW(S:SS)(k:Nat):(cP S k).watch=S.watch:=by
 unfold cP
 split at⊢
 ·rfl
 ·refine kJ (io (S.row.length-‹Nat›) S) λ V V V e=>?_;exact ah e rfl
theorem pN(S:SS)(k:Nat):(cP S k).row.length<=S.row.length:=by
 unfold cP
 split at⊢
 ·exact aw _
 ·exact ((ah (pi ..) ((gP _ _).length_le)):(i8 _ S).row.length<=_)
theorem tZ:∀(c:List Int) (S:SS),(c.foldl (λ S l=>gq S l (S.rows.length-1)) S).row=S.row
 | [],_=>rfl
 | l::c,S=>by refine ah fC ?_;rewrite [tZ c];rfl
theorem BG(S:SS)(c:List Int):(iy S c).row=S.row:=tZ _ _
structure sG(S:SS)(t:List Int):Prop where
 pw:t.Pairwise λ x y=>y≠-x
 len:t.length<64
 ne:t≠[]
 rng:∀l∈t,-1000<=l/\l<=1000
 hts:∀l∈t.tail,(lk S.heights l.natAbs).isSome
end
end
section
section
variable{C:Cx}{F:dD}{n:Nat}{m:Str->Option Value}{U U' :AH}{Z Y Y' :List (Addr×Obj)}{s s' :aO}
theorem mW{Q:Value->AH->Prop}(h:Q (.bool (!(v==.none))) U):ji C F n (bm .IsNot) v .none m U (qe Q):=λ a b ha hb O Z s W R K=>by
 refine Pl hb ?_
 subst ha
 refine isnot_none_gen (K _ _ _ R ?_)
 cases a<;>exact h
theorem yV{Q:Value->AH->Prop}(h:Q (.bool false) U):ji C F n (bm .IsNot) .none .none m U (qe Q):=mW h
theorem yU{Q:Value->AH->Prop}(h:Q (.bool true) U):ji C F n (bm .IsNot) (.ref a) .none m U (qe Q):=mW h
theorem FK{Q:Value->AH->Prop}(h:∀D,U.get D=none->WE C F n k m (U.put D (.dict [])) λ kv U1=>WE C F n v m U1 λ vv Uq=>∃i,kv=vi i/\Uq.get D=some (.dict [])/\Q (.ref D) (Uq.put D (.dict [(i,vv)]))):WE C F n (.Dict [some k] [v] pos) m U Q:=λ O Z s W R K=>by
 refine Py (knd:=iF C.prog C.w) rfl rfl (by simp) (by simp) (aP (R.push O (tk:=s.toks) (o:={cls:=.type "dict",data:=.dict #[]}) (ao:=.dict []) ⟨[],lc _,rfl⟩) λ R₁ hn=>(rg (h _ hn O Z _ _ R₁ λ kv s₁ U1 R₁ Ut=>Ut O Z s₁ _ R₁ λ vv s₂ Uq R₂ ⟨i,e,hg,q⟩=>LB (lB e λ t=>(aH ((R₂.sg _ _ hg).2) λ UA hm hx=>?_)))))
 obtain rfl:UA =[]:=by simpa using hx
 refine fV [(i,vv)] ⟨l5 C i t,rfl,trivial⟩ hm (λ h' Vo hs=>(K _ _ _ (R₂.set O R₂.core.upd hg (λ b o nb e=>(hs.2 b nb).trans e) (o:=.dict [(i,er vv)]) ⟨_,Vo,rfl⟩) q))
theorem Ce{Q:Value->AH->Prop}(h:∀D,U.get D=none->WE C F n k1 m (U.put D (.sdict [])) λ a U1=>WE C F n v1 m U1 λ va Uq=>WE C F n k2 m Uq λ b Ux=>WE C F n v2 m Ux λ vb U4=>
   ∃i j,a=.str i 0/\b=.str j 0/\i≠j/\U4.get D=some (.sdict [])/\Q (.ref D) (U4.put D (.sdict [(i,va),(j,vb)]))):WE C F n (.Dict [some k1,some k2] [v1,v2] pos) m U Q:=λ O Z s W R K=>by
 refine Py (knd:=strKind C.prog C.w) rfl rfl (by simp) (by simp) (aP (R.push O (tk:=s.toks) (o:={cls:=.type "dict",data:=.dict #[]}) (ao:=.sdict []) ⟨[],lc _,rfl⟩) λ R₁ hn=>(rg (h _ hn O Z _ _ R₁ λ kv s₁ U1 R₁ Ut=>Ut O Z s₁ _ R₁ λ va s₂ Uq R₂ UL=>rg (UL O Z s₂ _ R₂ λ kb s₃ Ux R₃ h₃=>h₃ O Z s₃ _ R₃ λ vb s₄ U4 R₄ ⟨i,j,e1,e2,hne,hg,q⟩=>LB (Pk e1 λ t=>(Pk e2 λ u=>(aH ((R₄.sg _ _ hg).2) λ UA hm hx=>?_)))))))
 obtain rfl:UA =[]:=by simpa using hx
 refine fV [(i,va),(j,vb)] ⟨zG C i t,rfl,zG C j u,rfl,trivial⟩ hm (λ h' Vo hs=>(K _ _ _ (R₄.set O R₄.core.upd hg (λ b o nb e=>(hs.2 b nb).trans e) (o:=.sdict [(i,er va),(j,er vb)]) ⟨_,Vo,?_⟩) q))
 simp [sK,dM,hne]
theorem tK{K:Type}[DecidableEq K]:∀(b a:List (K×Value)),(sK a b).map (λ p=>(p.1,er p.2))=sK (a.map λ p=>(p.1,er p.2)) (b.map λ p=>(p.1,er p.2))
 | [],a=>rfl
 | p::b,a=>by
  refine (?_:(sK (dM a p.1 p.2) b).map _=sK (dM _ p.1 (er p.2)) _)
  rewrite [tK b];rewrite [j3 er];rfl
theorem B7{Q:Value->AH->Prop}(hd:U.get d=some (.dict kvs))(ho:U.get o=some (.dict more))(hne:d≠o)(hz:kvs.length+more.length<=1000000)(h:Q .none (U.put d (.dict (sK kvs more)))):
  WB C F n (.builtin "dict.update") [.ref d,.ref o] m U (qe Q):=λ Us e O Z s W R K=>by
 refine Ro e (aH ((R.sg _ _ hd).2) λ UA hm hx=>(aH ((R.sg _ _ ho).2) λ XM Vo hx' =>?_))
 have hl:UA.length=kvs.length:=dt hx (ah (ag ..) rfl)
 have hl' :XM.length=more.length:=dt hx' (ah (ag ..) rfl)
 refine lx tv hm.typeIs PySem.F.entry_dict_update (PySem.F.args_dict_update_2 _ _) (meets_dict_update (iF C.prog C.w) d o hne (R.notSys ho)) (pE UA XM hm Vo (by refine ah b_ ?_;exact Th hz hl hl') (λ h' h1 h2 hs=>(K _ _ _ (R.set O R.core.upd hd (λ b o nb e=>(hs.2 b nb).trans e) (o:=.dict (sK kvs more)) ⟨_,h1,?_⟩) h)))
 exact ae (tK ..) (ah hx (ah hx' rfl))
end
end
section
section
variable{C:Cx}{F:dD}{n:Nat}{m:Str->Option Value}{U U' :AH}{X:Sx}{A A' :Ad}{S S' :SS}{me:Addr}{E E' :List (Addr×ba)}
noncomputable def pS(f:List Int)(k:Int):List Int:=if k∈f then f else f++[k]
theorem qJ(f:List Int)(k:Int):dM (pr f) k (.bool true)=pr (pS f k):=tG f k
theorem qN:∀(g f:List Int),sK (pr f) (pr g)=pr (g.foldl pS f)
 | [],f=>rfl
 | k::g,f=>by
  refine ((ah (qJ ..) ?_):sK (dM (pr f) k (.bool true)) (pr g)=_);rewrite [qN g];rfl
theorem qq:∀(g f:List Int),(g.foldl pS f).length<=f.length+g.length
 | [],f=>aw _
 | k::g,f=>by
  have:=qq g (pS f k)
  have h:(pS f k).length<=f.length+1:=by unfold pS;refine eC (λ V=>?_) λ V=>?_<;>simp
  refine ah fC (ah bM ?_);exact MI h this
end
section
variable{C:Cx}{F:dD}{n:Nat}{m:Str->Option Value}{U U' :AH}{X:Sx}{A A' :Ad}{S S' :SS}{me:Addr}{E E' :List (Addr×ba)}
noncomputable def lQ(S:SS)(t:List Int×List Int)(l:Int):List Int×List Int:=
 if (l.natAbs:Int)∈t.2/\0<md S l then
  match (lk S.causes l.natAbs).getD none with
  | none=>(t.1++[l],t.2)
  | some c=>(t.1,(((S.rows.getD c []).map λ x=>(x.natAbs:Int)).foldl pS []).foldl pS t.2)
 else t
structure AO(S:SS):Prop where
 hts:∀l∈S.row,(lk S.heights l.natAbs).isSome
 cau:∀l∈S.row,∃o,lk S.causes l.natAbs=some o/\∀c,o=some c->∃r,S.rows[c]? =some r/\r.length<=1000
 len:S.row.length<=50
end
end
section
open PySem.SeqAt PySem.AutoSeq1 PySem.MeetsSeq PySem.MeetsSeq2 PySem.MeetsSeq3
theorem xS(l b:Addr)(items items2:Array Value)(n n2:Nat)(dd dd2:Option Addr)(sl sl2:Array (Option Value))(e:Nat->Bool):
  Meets (eU.«tuple.__gt__» ⟨[.ref l,.ref b],[]⟩)
   (λ A R s=>s.heap.get? l=some {cls:=.type "tuple",dict:=dd,data:=.seq items n,slots:=sl}/\s.heap.get? b=some {cls:=.type "tuple",dict:=dd2,data:=.seq items2 n2,slots:=sl2}/\
    (∀j (h1:j<items.size) (h2:j<items2.size),EqAt A.in1 s items[j] items2[j] (e j)/\∃i t k u,items[j]=.int i t/\items2[j]=.int k u)/\
    ∀r:Bool,R (.ok (.ret (.bool r))) s):=
 .of_wp λ prog w A R s h=>by
  obtain ⟨hp,g,d,tk,os⟩:=s;refine fE h λ hl hb he h=>?_
  have f2:=Uo
  have hZ:(items.toList.zip items2.toList).length=min items.size items2.size:=by simp
  wp_walk using Pw hl,Pw hb,nY _ (λ rest b s' =>b.1=none/\s' =⟨hp,g,d,tk,os⟩/\∃i,rest=(items.toList.zip items2.toList).drop i) _
  case turn=>
   intro Uv rest b s' Uy;obtain ⟨y,x⟩:=Uv;obtain ⟨UU,rfl,i,hz⟩:=Uy
   have hlt:i<(items.toList.zip items2.toList).length:=by
    rcases bV i (items.toList.zip items2.toList).length with h' | h'
    ·exact h'
    ·replace hz:=xJ h' ▸hz;cases hz
   have hm:i<min items.size items2.size:=hZ▸hlt
   have h1:i<items.size:=ai hm (iJ _ _)
   have h2:i<items2.size:=ai hm (ic _ _)
   replace hz:=vE hlt▸hz
   injection hz with hyx VK
   have hy:y=items[i]:=by have:=congrArg JE hyx;simpa using this
   have hx:x=items2[i]:=by have:=congrArg Prod.snd hyx;simpa using this
   obtain ⟨ZI,p,t,k,u,e1,e2⟩:=he i h1 h2
   refine aj ((hy▸hx▸ZI) prog w _ _ ?_)
   cases hyy:e i with
   | true=>
    wp_walk
    exact ⟨rfl,rfl,i+1,VK⟩
   | false=>
    exact ah hy (ah hx (ah e1 (ah e2 (aj (ki (aj (gt_int (aj (aD (aD (aD ⟨_,rfl,h _⟩)))))))))))
  case fin=>
   intro UB s' UC;obtain ⟨b1,b2⟩:=UB;obtain ⟨UU,rfl,i,hz⟩:=UC
   simp only at UU
   subst UU
   wp_walk
   exact bY _ rfl (h _)
  case h=>exact ⟨rfl,rfl,0,rfl⟩
section
variable{C:Cx}{F:dD}{n:Nat}{m:Str->Option Value}{U U' :AH}{Z Y Y' :List (Addr×Obj)}{s s' :aO}
theorem wU{xs ys:List Int}{Q:Value->AH->Prop}(ha:U.rd a=some (.tup (xs.map vi)))(hb:U.rd b=some (.tup (ys.map vi)))(h:∀r:Bool,Q (.bool r) U):ji C F n (bm .Gt) (.ref a) (.ref b) m U (qe Q):=λ a' b' e1 e2 O Z s W R K=>by
 refine ah (eI e1) (ah (eI e2) (cu (R.at ha) λ vs c hv hx=>(cu (R.at hb) λ ws c' hw hy=>?_)))
 have hi:∀(vs:List Value) (xs:List Int),vs.map er=xs.map vi->∀(j:Nat) (hj:j<vs.toArray.size),∃i t,vs.toArray[j]=.int i t:=λ vs xs hx j hj=>by
  have hl:=eK hx
  replace hl:=(ag ..)▸hl
  replace hj:=bc▸hj
  have:(vs.map er)[j]? =some (vi (xs[j]'(ai hj (aC hl)))):=ah hx (ae ay (ah (aB (ai hj (aC hl))) rfl))
  replace this:=aB hj▸ay▸this
  exact aS (nH (bq this)) λ t ht=>(Aq _ t (ae (List.getElem_toArray ..) ht))
 exact PySem.richCompare_meets_room (op:=.Gt) ⟨_,hv,rfl⟩ ⟨_,hw,rfl⟩ PySem.F.slot_tuple_gt PySem.F.entry_tuple_gt (PySem.F.args_tuple_gt_2 _ _) (xS a b vs.toArray ws.toArray c c' none none #[] #[] λ j=>match vs.toArray[j]?,ws.toArray[j]? with | some (.int p _),some (.int q _)=>p==q | _,_=>false) ⟨hv,hw,λ j h1 h2=>(fM (hi vs xs hx j h1) λ i t e1=>(fM (hi ws ys hy j h2) λ k u e2=>(⟨(ah (cq h1) (ah (cq h2) (ah e1 (ah e2 (EqAt.int_int i t k u))))),i,t,k,u,e1,e2⟩))),λ r=>⟨(λ x=>nomatch x),K _ _ _ (R) (h r)⟩⟩ (by have:=O.units;exact au (ax _ _) this)
end
end
section
section
variable{C:Cx}{F:dD}{n:Nat}{m:Str->Option Value}{U U' :AH}{X:Sx}{A A' :Ad}{S S' :SS}{me:Addr}{E E' :List (Addr×ba)}
theorem mQ{α:Type}{r:List (Int×α)}(h:k∈r.map (·.1)):∃v,lk r k=some v:=by
 cases e:lk r k with
 | some v=>exact ⟨v,rfl⟩
 | none=>exact absurd h ((ii _ _).mp e)
noncomputable def OX(S:SS)(v:Int)(ks:List Int):Prop:=(v=0/\∀k∈ks,(lk S.known k).isSome)\/(v∈ks/\lk S.known v=none)
noncomputable def lp(S:SS)(l:Int):SS:=match says S l with
 | none=>ln (S.uBegins (S.begins++[S.row.length])) l none
 | some _=>(S.uBegins (S.begins++[S.row.length]))
structure xo(S:SS)(as:List Int)(P:SS->Option Bool->Prop):Prop where
 lock:S.lock=none
 keys:∀k∈S.heats.map (·.1),1<=k
 b1:S.row.length<90000
 b2:S.begins.length<90000
 b3:S.log.length<90000
 b4:as.length<=1000
 b5:∀l∈as,-1000<=l/\l<=1000
 asm:∀l,as[S.begins.length]? =some l->(says S l=some false->AO S/\
   (let f:=(S.row.reverse.foldl (lQ S) ([l],[(l.natAbs:Int)])).1
    (¬(f.map λ x=>-x).Pairwise (λ x y=>y≠-x)->P (S.uBlamed f) (some false))/\
    ((f.map λ x=>-x).Pairwise (λ x y=>y≠-x)->∀c,vk (f.map λ x=>-x) c->P ((S.uBlamed f).uLog (S.log++[c])) (some false))))/\
  (says S l≠some false->P (lp S l) none)
 free:as.length<=S.begins.length->((∀k∈S.heats.map (·.1),(lk S.known k).isSome)->P S (some true))/\∀v∈S.heats.map (·.1),lk S.known v=none->∀l,l=v\/l=-v->P (lp S l) none
end
end
section
section
variable{C:Cx}{F:dD}{n:Nat}{m:Str->Option Value}{U U' :AH}{Z Y Y' :List (Addr×Obj)}{s s' :aO}
theorem Cb{Q:Bool->AH->Prop}(hm:iX VW r2=false)
  (h:WE C F n l m U λ a U1=>WE C F n r1 m U1 λ b Uq=>ji C F n (bm Xg) a b m Uq (qe λ c Ux=>WV C F n lS c m Ux λ t U4=>
   if t then WE C F n r2 m U4 λ d U5=>ji C F n (bm VW) b d m U5 (qe λ c U6=>WV C F n lS c m U6 Q) else Q false U4)):WT C F n (.Compare l [Xg,VW] [r1,r2] pos) m U Q:=λ O Z s W R K=>by
 refine ((ah (markedBehindIn_of_false hm) (aj (h O Z s _ R λ a s₁ U1 R₁ Ut=>(((aj (cR (Ut O Z s₁ _ R₁ λ b s₂ Uq R₂ UL=>(aj (eR (aj (cR (UL a b rfl rfl O Z s₂ _ R₂ λ c s₃ Ux R₃ h₃=>(aj (SA (aj (cR (h₃ c rfl O Z s₃ _ R₃ λ t s₄ U4 R₄ VE=>?_))))))))))))):br _ _ (do
  let rv<-fF [a] (gb r1 F.env)
  fT pos
  let c<-fF [a,rv] (bm Xg a rv)
  release [a,rv] [c]
  if<-fF [c,rv] (lS c) then testChain pos rv [VW] [gb r2 F.env] else eu false) _ _ _))))):br _ _ (do testChain pos (<-gb l F.env) [Xg,VW] [gb r1 F.env,markedBehindIn VW r2 (gb r2 F.env)]) _ _ _)
 cases t with
 | false=>exact aD (K _ _ _ R₄ VE)
 | true=>
  have h4' :WE C F n r2 m U4 λ d U5=>ji C F n (bm VW) (er b) d m U5 (qe λ c U6=>WV C F n lS c m U6 Q):=VE
  exact ((aj (cR (h4' O Z s₄ _ R₄ λ d WD U5 R₅ VD=>(aj (eR (aj (wpAny_operateT (VD b d rfl rfl O Z WD _ R₅ λ c s6 U6 R₆ Z8=>(cR (Z8 c rfl O Z s6 _ R₆ K)))))))))):br _ _ (do
   let rv<-fF [b] (gb r2 F.env)
   fT pos
   let c<-operate [b,rv] (bm VW b rv)
   fF [c] (lS c)) _ _ _)
end
end
section
section
variable{C:Cx}{F:dD}{n:Nat}{m:Str->Option Value}{U U' :AH}{X:Sx}{A A' :Ad}{S S' :SS}{me:Addr}{E E' :List (Addr×ba)}
noncomputable def CD(h:List (Int×Int))(l:Int):List (Int×Int):=if (lk h l.natAbs).isSome then h else ins h l.natAbs 0
structure AM(as:List Int)(c0:Nat)(I:SS->Nat->Prop)(Fin:SS->Bool->Prop):Prop where
 refd:∀S k,I S k->S.refuted=true->Fin S false
 turn:∀S k,I S k->nS S->S.refuted=false->∃J M P,sH J M P/\J S/\
  (∀S' i,P S' i->nS S' ->∃L PL,(S'.begins≠[]->kh S' L PL/\L [] [] 0 S'.row.length 0 i)/\(∀t,PL t->sG S' t)/\S'.lock=none/\Tr S' /\S'.log.length<90000/\S'.rows.length<90000/\Wz S' 80000/\S'.row.length<90000/\
   (S'.begins=[]->∃k',k' <k/\I (ph (S'.uClashes (S'.clashes+1))) k')/\
   (S'.begins≠[]->∀S₁ t d c τ g,PL t->Tw (S'.uClashes (S'.clashes+1)) S₁->t=d::t.tail->vk t c->τ.Perm t.tail->τ.Pairwise (λ x y=>md S' y<=md S' x)->∃k',k' <k/\I ((mT S₁ d c τ).uGain g) k'))/\
  (∀S',J S' ->nS S' ->S'.row.length<=S'.seen->c0<=S'.clashes/\S'.clashes<c0+16/\S'.limit=0/\xo S' as λ ZX o=>match o with
   | none=>∃k',k' <k/\I ZX k'
   | some b=>Fin ZX b)
end
end
section
section
variable{k:Nat}{C:Cx}{F:dD}{n:Nat}{m:Str->Option Value}{U U' :AH}{Z Y Y' :List (Addr×Obj)}{s s' :aO}
theorem qS(A:eN):A.in1.units<=A.units+3:=((aJ (af _ _) _):A.units+_<=_)
noncomputable def ti(C:Cx)(U:AH)(k:Nat)(v w:Value)(b:Bool):Prop:=∀(F:dD) (Z:List (Addr×Obj)) (s:aO) (m:Str->Option Value),cQ C F Z s m U->∀v' w',er v' =v->er w' =w->∀A:eN,A.units+k<CJ->RR A s v' w' b
theorem ti.bools(a b:Bool):ti C U k (.bool a) (.bool b) (a==b):=λ F Z s m R v w e1 e2 A hu=>Gp e1 (Gp e2 (ot a b))
theorem ti.none_bool(b:Bool):ti C U k .none (.bool b) false:=λ F Z s m R v w e1 e2 A hu=>Pl e1 (Gp e2 (JD b))
theorem ti.same(a:Addr):ti C U k (.ref a) (.ref a) true:=λ F Z s m R v w e1 e2 A hu=>lA e1 (lA e2 (JB _))
theorem ti.tups{e:Nat->Bool}(ha:U.rd a=some (.tup xs))(hb:U.rd b=some (.tup ys))(hne:a≠b)
  (he:∀j x y,xs[j]? =some x->ys[j]? =some y->ti C U k x y (e j)):ti C U (k+3) (.ref a) (.ref b) ((bk (min xs.length ys.length)).all e&&xs.length==ys.length):=λ F Z s m R v w e1 e2 A hA=>by
 refine lA e1 (lA e2 (cu (R.at ha) λ vs c hv hx=>(cu (R.at hb) λ ws c' hw hy=>?_)))
 have h1:=eK hx
 have h2:=eK hy
 have:=JA (A:=A) (s:=s) (items:=vs.toArray) (items2:=ws.toArray) (e:=e) ⟨_,hv,rfl,_,rfl⟩ ⟨_,hw,rfl,_,rfl⟩ (au (ax _ _) hA) λ j q1 q2=>by
  rw [bc] at q1 q2
  exact he j (er vs[j]) (er ws[j]) (dt hx (ae ay (ah (aB q1) rfl))) (dt hy (ae ay (ah (aB q2) rfl))) F Z s m R _ _ rfl rfl A.in1 (by have:=qS A;exact au (bA this _) (ya (bW _ _ _) hA))
 replace this:=h2▸h1▸bc▸bc▸this
 exact JC hne this
theorem Fq{e:Value->Bool}:∀{vs:List Value},vs.toArray.any (λ y=>e (er y))=(vs.map er).any e:=by
 intro vs
 simp [ky,Ul]
theorem qV{e:Value->Bool}{Q:Value->AH->Prop}(ha:U.rd a=some (.list xs))(he:∀y∈xs,ti C U 6 y x (e y))(h:Q (.bool (xs.any e)) U):ji C F (n+1) (bm .In) x (.ref a) m U (qe Q):=λ x' a' e1 e2 O Z s W R K=>by
 refine lA e2 (cu (R.at ha) λ vs c hv hx=>?_)
 have hu:=O.units
 have hi:=qS F.A
 refine RQ (items:=vs.toArray) (λ y=>e (er y)) ⟨_,hv,rfl,_,rfl⟩ (λ y hy=>he (er y) ?_ F Z s m R y x' rfl e1 _ (by lia)) (K _ _ _ R ?_)
 ·exact dt hx (bo (by simpa using hy))
 ·refine (?_:Q (.bool _) U)
  exact ah Fq (ah hx h)
theorem sh{e:Value->Bool}{Q:Value->AH->Prop}(ha:U.rd a=some (.list xs))(he:∀y∈xs,ti C U 6 y x (e y))(h:Q (.bool (!xs.any e)) U):ji C F (n+1) (bm .NotIn) x (.ref a) m U (qe Q):=λ x' a' e1 e2 O Z s W R K=>by
 refine lA e2 (cu (R.at ha) λ vs c hv hx=>?_)
 have hu:=O.units
 have hi:=qS F.A
 refine RP (items:=vs.toArray) (λ y=>e (er y)) ⟨_,hv,rfl,_,rfl⟩ (λ y hy=>he (er y) ?_ F Z s m R y x' rfl e1 _ (by lia)) (K _ _ _ R ?_)
 ·exact dt hx (bo (by simpa using hy))
 ·refine (?_:Q (.bool _) U)
  exact ah Fq (ah hx h)
end
end
section
section
variable{C:Cx}{F:dD}{n:Nat}{m:Str->Option Value}{U U' :AH}{X:Sx}{A A' :Ad}{S S' :SS}{me:Addr}{E E' :List (Addr×ba)}
theorem zF:∀{c ls:List Int},c.Nodup->(∀x∈c,x∈ls)->c.length<=ls.length
 | [],_,_,_=>a0 _
 | x::c,ls,hn,hs=>by
  refine aP (aY.mp hn) λ h1 h2=>?_
  have hx:=hs x (.head _)
  have:=zF (ls:=ls.erase x) h2 λ y hy=>(AU (λ e=>h1 (by exact dt e hy))).mpr (hs y (.tail _ hy))
  replace this:=vQ hx▸this
  have:=mC hx
  refine ah bM ?_;lia
noncomputable def mS(S:SS)(c:List Int):List Int:=c.filter λ l=>(says S l).isNone
noncomputable def Ft(S:SS)(c:List Int):SS:=if S.refuted=true\/(c.any λ l=>says S l==some true)=true then S else match mS S c with
 | []=>ph S
 | [l]=>ln S l none
 | l::k::r=>iy S (l::k::r)
noncomputable def fL(S:SS)(ls:List Int):SS:=((cP S 0).uHeats (ls.foldl CD S.heats))
end
end
section
noncomputable abbrev Fk(b:Bk)(qual:Str)(scope:Scope)(f:Addr)(Vj:Value)(cc:Addr):dD:=
 {A:=b.A.deeper (zk qual scope b.L f Vj cc),fenv:=zk qual scope b.L f Vj cc,env:=zk qual scope b.L f Vj cc,outer:=b.outer,A₀:=b.A₀,base:=b.base,h₀:=b.h₀,L:=b.L,oL:=none,cells:=[]}
section
variable{C:Cx}{F:dD}{n:Nat}{m:Str->Option Value}{U U' :AH}{Z Y Y' :List (Addr×Obj)}{s s' :aO}
theorem CZ{α:Type}{t:Sem α}{Q:α->aO->Prop}{E:Value->aO->Prop}(h:br M A t Q E s):_root_.PySem.wpAt M A c t Q E s:=wpAt_of_wpAny h
theorem AA{names:List Str}(hn:names.Nodup){v:Value}(h:(names.zip args).lookup x=some v):(names.zip args).reverse.lookup x=some v:=by
 induction names generalizing args with
 | nil=>exact (bH h).elim
 | cons y r ih=>
  cases args with
  | nil=>exact (bH h).elim
  | cons a as=>
   refine aP (aY.mp hn) λ h1 h2=>?_
   replace h:=dY▸h;rewrite [bv] at h
   refine ah dY (ah List.reverse_cons (ae List.lookup_append ?_))
   split at h
   ·rename_i e
    have e' :=df e
    clear e hn;subst e'
    have:(r.zip as).reverse.lookup x=none:=by
     refine gk List.lookup_eq_none_iff ?_
     intro p hp
     have:=(gB (a:=p.1) (b:=p.2) (GH.mp hp)).1
     exact bne_iff_ne.mpr (λ(q:x=p.1)=>h1 (ah q this))
    exact ah this (ae GC (ae bv (ah (beq_self_eq_true ..) h)))
   ·exact ah (ih h2 h) (ae Option.some_or rfl)
theorem rQ:∀(l:List (Str×Value)) (m:Str->Option Value),(l.map (·.1)).Nodup->∀y v,BB l m y=some v->l.lookup y=some v\/m y=some v
 | [],m,_,y,v,h=> .inr h
 | (k,a)::r,m,hn,y,v,h=>by
  refine aP (aY.mp hn) λ h1 h2=>?_
  (try clear hn);rcases rQ r (fA m k a) h2 y v h with q | q
  ·left
   have:y≠k:=λ e=>h1 (aF.mpr ⟨(y,v),mem_of_lookup q,e⟩)
   exact ae bv (ah (beq_false_of_ne this) q)
  ·unfold fA at q
   split at q
   ·rename_i e;clear h h1;subst e;left;exact ae bv (ah (beq_self_eq_true ..) q)
   ·exact .inr q
theorem tM:∀(l:List (Str×Value)) (y:Str),(l.map λ p=>(p.1,er p.2)).lookup y=(l.lookup y).map er
 | [],y=>rfl
 | (k,a)::r,y=>by
  refine ah aU (ae bv (ah bv (ah (tM r y) ?_)))
  by_cases e:y=k
  ·subst e;simp
  ·simp [beq_false_of_ne e]
theorem cQ.leave{m' :Str->Option Value}{mL:Str->Option Value}(O:F.Ok C n)(R:cQ C F Z s m U)(FR:Fr F.h₀ F.L s.heap mL)(Va :cQ C Fs (Z++iN s.heap F.ownA) s' m' U')(FE:Fr F.h₀ F.L s'.heap mL)(NE:qC F.h₀ F.L s'.heap (Z++iN s.heap F.ownA++iN s'.heap (U'.map (·.1)))):cQ C F Z s' m U' :=by
 have ownKeep:∀a∈F.ownA,∀o,s.heap.get? a=some o->s'.heap.get? a=some o:=λ a ha o e=>
  (Va.zz (a,o) (ak _ (bX.mpr ⟨ha,e⟩))).1
 have locKeep:∀ml,s.heap.Ns F.env.locals ml->s'.heap.Ns F.env.locals ml:=λ ml h=>by
  cases hl:F.oL with
  | none=>
   have e:=O.el hl
   rw [e] at h⊢
   exact ah (gH h FR.ns) FE.ns
  | some o=>exact en h λ ob e=>ownKeep _ (by simp [dD.ownA,hl]) ob e
 refine ⟨Va.core,⟨mL,FE⟩,λ ml e=>?_,?_,λ x v hx=>?_,λ x hx=>?_,λ a ha=>?_,λ p hp=>?_,λ a o e=>?_,Va.sm⟩
 ·exact ah (gH (R.inn ml e) FR.ns) FE.ns
 ·exact aS R.loc λ ml h=>⟨ml,locKeep ml h⟩
 ·obtain ⟨a,a',cv,e,q⟩:=R.var x v hx
  refine ⟨a,a',cv,e,?_⟩
  rcases q with ⟨k,ml,hm,hv⟩ | ⟨k,c,hc,hv⟩
  ·exact .inl ⟨k,ml,locKeep ml hm,hv⟩
  ·exact .inr ⟨k,c,hc,dk hv λ o e=>ownKeep _ (by simp [dD.ownA];exact .inl ⟨_,mem_of_lookup hc⟩) o e⟩
 ·exact aS (R.cel x hx) λ cv h=>⟨cv,dk h λ o e=>ownKeep _ (by simp [dD.ownA];exact .inl ⟨_,hx⟩) o e⟩
 ·refine ck (R.own a ha) λ Uv b c=>(ck Uv λ UP l2 l3=>?_);clear Uv;obtain ⟨o,ho⟩:=UP
  exact dn ⟨⟨o,ownKeep a ha o ho⟩,l2,l3⟩ ((Va.zz (a,o) (ak _ (bX.mpr ⟨ha,ho⟩))).2.2.2) c
 ·exact fE (Va.zz p (av _ hp)) λ a b c d=>(fE (R.zz p hp) λ V b' c' V=>(ge a b' c' d))
 ·refine aP (Va.sg a o e) λ Uy q=>(ck Uy λ UQ V V=>?_);clear Uy;obtain ⟨ob,x⟩:=UQ
  exact ck (NE (a,ob) (ak _ (bX.mpr ⟨AH.dom' e,x⟩))) λ V h2 h3=>⟨⟨⟨ob,x⟩,h2,h3⟩,q⟩
theorem FP{f f2 cc D Wn x Cl dx:Addr}{name qual:Str}{params:Arguments}{rest:List Stmt}{p0 p1 ap cp ep:Pos}{scope:Scope}{dV kV Xe pm ct oc ccl cl:Value}{an od cdd cld:Option Addr}{Yp ccs csl:Array (Option Value)}{ar:Arg}{vs:Array Value}{file:Str}{tf:Tok}{cdD:ClassData}{fs:List (Str×Value)}
  {args:List Value} {names:List Str} {pl:Sem Bool} {Q:Value->AH->Prop}
  (ho:C.K.lookup f=some ⟨oc,od,.func (ksFn name qual params (.Expr (.Call (.Attribute (.Call (.Name "super" p0) [] [] p1) "__init__" ap) [] [] cp) ep::rest) scope dV kV Xe pm an (.ref Wn) ct cc),Yp⟩) (VU:RO C.K (.ref Wn) qual=true)
  (hlen:args.length=names.length)
  (VH:∀vs:List Value,vs.length=(ar.arg::names).length->IL (ksFn name qual params (.Expr (.Call (.Attribute (.Call (.Name "super" p0) [] [] p1) "__init__" ap) [] [] cp) ep::rest) scope dV kV Xe pm an (.ref Wn) ct cc) ⟨vs,[]⟩=eu ((ar.arg::names).zip vs))
  (X2:∀y∈ar.arg::names,kU y=true/\scope.names.lookup y=some .local) (Wr:(ar.arg::names).Nodup) (hfr:∀y∈scope.names,y.2≠ .cell/\(y.2=.free->y.1="__class__"))
  (Yw:scope.isCoroutine=false) (WN:scope.isGenerator=false) (hk:scope.kind=.function)
  (hp:(params.posonlyargs++params.args).head? =some ar) (Y4:C.K.lookup Wn=some ⟨ccl,cdd,.fields vs,ccs⟩) (hvs:vs[2]? =some (.str file tf)) (Y3:((C.prog.main.file:Str)==file)=true)
  (Y5:C.K.lookup cc=some ⟨cl,cld,.cell (some (.ref D)),csl⟩) (hD:clsIn C.K D=some cdD) (hsub:mroIn C.K Cl (.ref D)=some true) (X7:pY C.K du "super"=some none)
  (hks:scope.names.lookup ("super":Str)=some .globalImplicit) (ZE:scope.names.lookup ("__class__":Str)=some .free)
  (htop:(C.prog.main.scope.names.lookup ("super":Str)).isSome=false) (Y6:fU "super"=some (.type "super"))
  (hth:pY C.K cStatics "thirdparty.any"=some none) (Zf:ks_superIn C.K Cl D "__init__"=some (some (.ref f2))) (ht2:typeIn C.K (.ref f2)=some (.type "function")) (hf2:fnIn C.K f2=true)
  (hint:∀L,II (zk qual scope L f (.ref Wn) cc)=false) (We:∀L,iE (.Call (.Attribute (.Call (.Name "super" p0) [] [] p1) "__init__" ap) [] [] cp) none ep.line (zk qual scope L f (.ref Wn) cc)=eu false)
  (he:∀L,gb (.Call (.Attribute (.Call (.Name "super" p0) [] [] p1) "__init__" ap) [] [] cp) (zk qual scope L f (.ref Wn) cc)=(do
   let ov<-Co (.Call (.Name "super" p0) [] [] p1) "__init__" (zk qual scope L f (.ref Wn) cc) (gb (.Call (.Name "super" p0) [] [] p1) (zk qual scope L f (.ref Wn) cc))
   fT ap.atName
   let (fv,first)<-fF [ov] (qY ov "__init__" pl)
   lW cp fv first (fg cp (dj [] (zk qual scope L f (.ref Wn) cc))) []))
  (hx:U.get x=some (.inst Cl dx)) (hdx:U.get dx=some (.ns fs))
  (hw:∀b:Bk,WC C n f2 [.ref x] U λ V τ=>WS C (Fk b qual scope f (.ref Wn) cc) n rest (BB ((ar.arg::names).zip (.ref x::args)) λ V=>none) τ λ fl V U' =>Q (er (match fl with | .ret v=>v | _=> .none)) U'):
  WC C (n+1) f (.ref x::args) U Q:=by
 intro F Z s m XO O R Vi
 refine aS R.fr λ mL FR=>?_
 obtain ⟨x',Us,rfl,ex,eargs2⟩:∃x' as,XO=x' ::as/\er x' =.ref x/\as.map er=args:=by
  cases XO with
  | nil=>cases Vi
  | cons a as=>exact jG a as rfl ((sN Vi).1) ((sN Vi).2)
 (try clear Vi);obtain rfl:=eI ex
 have hlen' :(aZ x::Us).length=(ar.arg::names).length:=ae bM (ah bM (dt hlen (dt eargs2 (ah (ag ..) rfl))))
 let own:=iN s.heap F.ownA
 let sg:=iN s.heap (U.map (·.1))
 have N:qC F.h₀ F.L s.heap (Z++own++sg):=R.news
 have hsub2:(ar.arg::names).zip (aZ x::args)=((ar.arg::names).zip (aZ x::Us)).map λ p=>(p.1,er p.2):=dt eargs2 (ae dY (ah dY (ah aU (ah kM rfl))))
 have hcell' :∀y∈scope.names,y.2≠ .cell:=λ y hy=>(hfr y hy).1
 refine ks_code_super O.B FR O.G.X N O.G.T O.hA O.hf O.hk ho VU (by have:=O.depth;exact au (ax _ _) this) (tA (VH _ hlen')) (λ y hy=>(X2 y.1 (gB (a:=y.1) (b:=y.2) hy).1).2) ?_ hcell' Yw WN hk
 intro g L' Ut FG F' N' B' X' T' lt
 let b:Bk:=⟨F.A,F.A,F.fenv::F.outer,F.base,g,L'⟩
 let Fs:dD:=Fk b qual scope f (.ref Wn) cc
 have O' :Fs.Ok C n:=by
  refine ⟨B',xM O.hA,rfl,hk,⟨X',T'⟩,hk,rfl,rfl,λ V=>rfl,(λ h=>nomatch h),O.handled,.nil,(λ V h=>nomatch h),(λ V V h=>nomatch h),λ y hy hne=>?_,?_,?_⟩
  ·rcases hy with hy | hy
   ·exact absurd rfl (hfr _ (mem_of_lookup hy)).1
   ·exact absurd ((hfr _ (mem_of_lookup hy)).2 rfl) hne
  ·have:=O.depth;refine (?_:F.A.depth+1+3*n<_);exact N9 this
  ·have:=O.units;refine (?_:F.A.units+3+10*n<_);exact NZ this
 have hzk:((ar.arg::names).zip (aZ x::args)).map (·.1)=ar.arg::names:=List.map_fst_zip (by refine ah bM (ah bM ?_);exact bJ (aC hlen.symm))
 have hvar:∀y v,BB ((ar.arg::names).zip (aZ x::args)) (λ V=>none) y=some v->∃cv,er cv=v/\((ar.arg::names).zip (aZ x::Us)).lookup y=some cv/\y∈ar.arg::names:=by
  intro y v hy
  have hl:=(rQ _ _ (ah hzk Wr) y v hy).resolve_right (λ h=>nomatch h)
  have hmem:y∈ar.arg::names:=dt hzk (aF.mpr ⟨(y,v),mem_of_lookup hl,rfl⟩)
  replace hl:=(tM ..)▸hsub2▸hl
  exact aH (aX.mp hl) λ cv h1 h2=>(fV cv h2 h1 hmem)
 have R' :cQ C Fs (Z++own) {s with heap:=Ut,toks:=s.toks+((ar.arg::names).zip (aZ x::Us)).length} (BB ((ar.arg::names).zip (aZ x::args)) λ V=>none) U:=by
  refine ⟨R.core.upd,⟨_,F'⟩,(λ V h=>nomatch h),⟨_,F'.ns⟩,?_,(λ V h=>nomatch h),(λ V h=>nomatch h),?_,?_,R.sm⟩
  ·intro y v hy
   refine cX (hvar y v hy) λ cv e hl hmem=>?_
   have hok:=X2 y hmem
   have ok:=hok.1
   simp only [kU,dL,dh] at ok
   exact ⟨ok.1,ok.2,cv,e,.inl ⟨hok.2,_,F'.ns,AA Wr hl⟩⟩
  ·intro p hp
   refine ck (N' p (av _ hp)) λ a b c=>(ge a b c ?_)
   rcases az.mp hp with hp | hp
   ·exact (R.zz p hp).2.2.2
   ·exact (R.own _ (bX.mp hp).1).2.1
  ·intro a o e
   refine aP (R.sg a o e) λ UB q=>(ck UB λ UT V V=>?_);clear UB;obtain ⟨ob,x⟩:=UT
   exact ck (N' (a,ob) (ak _ (bX.mpr ⟨AH.dom' e,x⟩))) λ h1 h2 h3=>⟨⟨⟨ob,h1⟩,h2,h3⟩,q.keep λ o' ho' =>by replace ho' :=x▸ho';clear h2 h3 x;have UC:=sI ho';clear ho';subst UC;exact h1⟩
 have O'' :=O'
 have sc' :=Zf
 refine cu ((R'.sg _ _ hdx).2) λ es k Xw hes=>?_
 have hI:=oE (R'.sg _ _ hx).2 Xw
 refine ks_wpAt_execs_cons (ks_wpAt_Expr_any (ks_wpAt_MethodCall (pl:=pl) ?_ (he _)) ?h1 ?h2)
 case h1=>exact hint _
 case h2=>exact We _
 refine ks_node (attr:=bg "__init__") F' X' (R'.news) T' ho hp (AA Wr ?_) hI Y4 hvs Y3 Y5 hD hsub X7 (by rfl) hks ZE (X2 _ (.head _)).2 hk htop Y6 λ so h2 F2 N2 l2=>?_
 ·exact ah dY (ae bv (ah (beq_self_eq_true ..) rfl))
 have hI2:InstAt h2 x _ Cl _:=oE (N2 (x,F_ Cl dx) (.tail _ (ak _ (bX.mpr ⟨AH.dom' hx,hI.at_⟩)))).1 (N2 (dx,LD es k) (.tail _ (ak _ (bX.mpr ⟨AH.dom' hdx,Xw⟩)))).1
 refine ks_method (s:={s with heap:=h2,toks:=s.toks+((ar.arg::names).zip (aZ x::Us)).length}) F2 X' N2 (.head _) hI2 hth Zf ht2 (by decide) λ q h3 F3 N3 l3=>(Uc (P:=MethP C.K q f2 (.ref x)) (by rfl) (keeps_M hf2) (evalArgs_nil3 ⟨methP N3 (.head _) (X'.keeps F3.keep),?_⟩))
 have R₃:cQ C Fs (Z++own) {s with heap:=h3,toks:=s.toks+((ar.arg::names).zip (aZ x::Us)).length+1} (BB ((ar.arg::names).zip (aZ x::args)) λ V=>none) U:=
  R'.back O' F' ⟨R'.core.gens,R'.core.os,R'.core.dr⟩ F3 (λ V=>False) (λ V h=>h.elim) (λ p hp V=>(N3 p (.tail _ (.tail _ hp))).1) λ a o e=> .inl ⟨e,id⟩
 refine call_meth N3 (.head _) (eS (hw b Fs (Z++own) _ _ [.ref x] O' R₃ rfl) λ r s₄ UO=>?_)
 obtain ⟨v₄,τ,hr,R₄,hq,FE⟩:=UO
 subst hr
 refine CZ (dG (hq O' _ _ _ R₄ λ fl WD m' U' Va hq' =>(aS Va.fr λ Za X5 =>(t7 L' Za (Z++own++iN WD.heap (U'.map (·.1))) X5 ?_ (λ FE NE=>⟨_,U',rfl,R.leave O FR Va FE NE,hq',λ mL2 ZZ=>ah (gH ZZ.ns FR.ns) FE⟩)))) (λ V V q=>q) uw)
 intro p hp
 rcases az.mp hp with hp | hp
 ·exact fE (Va.zz p hp) λ a b c V=>(dn a b c)
 ·refine aP (bX.mp hp) λ a b=>(aS (AH.dom a) λ o e=>(aP (Va.sg _ _ e) λ UF V=>(ck UF λ V c d=>?_)));clear UF;exact dn b c d
end
end
section
section
variable{C:Cx}{F:dD}{n:Nat}{m:Str->Option Value}{U U' :AH}{Z Y Y' :List (Addr×Obj)}{s s' :aO}
theorem yW{Cl fI:Addr}{Q:Value->AH->Prop}(hm:makesIn C.K Cl=true)(hi:ni C.K (.ref Cl) "__init__"=some (some (.ref fI)))(hf:isFn C.K (.ref fI)=true)
  (hne:∃a o,U.get a=some o) (h:∀x dx,U.get x=none->U.get dx=none->x≠dx->WC C k fI (.ref x::args) ((U.put dx (.ns [])).put x (.inst Cl dx)) λ v τ=>v=.none/\Q (.ref x) τ):WB C F (k+1) (.ref Cl) args m U (qe Q):=λ Us e O Z s W R K=>by
 refine cX (R.viaNews O) λ mL FR N back=>(call_cls FR O.G.X N hm hi hf λ x dx h' F' N' l1 l2=>?_)
 have hlt:∀a o,U.get a=some o->a<dx:=λ a o e=>by
  refine aP (R.sg _ _ e) λ Uv V=>(aP Uv λ UC V=>?_);clear Uv;obtain ⟨ob,q⟩:=UC
  exact l1 (a,ob) (ak _ (bX.mpr ⟨AH.dom' e,q⟩))
 have h3:3<dx:=by refine fM hne λ a o e=>?_;clear hne;exact bz (R.sm _ _ e) (hlt _ _ e)
 have nx:U.get x=none:=by
  cases q:U.get x with
  | none=>rfl
  | some o=>exact absurd (bz (hlt _ _ q) l2) (cC _)
 have nd:U.get dx=none:=by
  cases q:U.get dx with
  | none=>rfl
  | some o=>exact absurd (hlt _ _ q) (cC _)
 have px:=N' (x,F_ Cl dx) (.head _)
 have pd:=N' (dx,LD [] 0) (.tail _ (.head _))
 have R₁:cQ C F Z {s with heap:=h' } m ((U.put dx (.ns [])).put x (.inst Cl dx)):=by
  refine R.back O FR ⟨R.core.gens,R.core.os,R.core.dr⟩ F' (λ V=>False) (λ V h=>h.elim) (λ p hp V=>(N' p (.tail _ (.tail _ hp))).1) λ a o e=>?_
  replace e:=(AH.get_put ..)▸e
  split at e
  ·rename_i q;clear N' nx;subst q;have Uy:=sI e;clear e;subst Uy
   exact .inr ⟨.inr ⟨λ p hp=>bP (bz (l1 p hp) l2),bz h3 l2⟩,⟨⟨_,px.1⟩,px.2.1,px.2.2⟩,px.1⟩
  ·replace e:=(AH.get_put ..)▸e
   split at e
   ·rename_i q;clear N' hlt l2 nd px;subst q;have UB:=sI e;clear e;subst UB
    exact .inr ⟨.inr ⟨λ p hp=>bP (l1 p hp),h3⟩,⟨⟨_,pd.1⟩,pd.2.1,pd.2.2⟩,[],0,pd.1,.nil⟩
   ·exact .inl ⟨e,id⟩
 have w1:(qZ "type.__call__" ⟨.ref Cl::Us,[]⟩).weight<=1:=by
  have:(qZ "type.__call__" ⟨.ref Cl::Us,[]⟩).weight=1:=by first | rfl | kernel_rfl
  exact aC this
 have w2:(qZ "type.__call__" ⟨.ref Cl::Us,[]⟩).cUnits<=5:=by
  have:(qZ "type.__call__" ⟨.ref Cl::Us,[]⟩).cUnits=1:=by first | rfl | kernel_rfl
  exact ac (aC this) (ac (aw _) (af _ _))
 have O1:({F with A:=F.A.under (.builtin "type.__call__" ⟨.ref Cl::Us,[]⟩)}:dD).Ok C k:=O.withA rfl O.handled (by refine (?_:F.A.depth+_+_<=_);exact Re w1) (by refine (?_:F.A.units+_+_<=_);exact Rd w2)
 refine eS (h x dx nx nd (cj l2) _ Z _ m (.ref x::Us) O1 R₁.withA (ae aU (ah e rfl))) λ r s₂ UO=>?_
 obtain ⟨v,τ,hr,R₂,⟨hv,hq⟩,_⟩:=UO
 subst hr
 exact ⟨oH hv,K _ _ _ R₂.unA hq⟩
theorem xh{Cl:Addr}{Q:Value->AH->Prop}(hk:F.env.kindOf x=some .globalImplicit)(hx:pY C.K du x=some (some (.ref Cl)))(hd:(x==("__debug__":Str))=false)
  (hf:F9 C.K (.ref Cl)=true) (hp:ip args) (h:WL C F n args m U λ vs Uq=>WB C F n (.ref Cl) vs m Uq (qe Q)):WE C F n (.Call (.Name x p) args [] pos) m U Q:=λ O Z s W R K=>by
 refine nZ (eX O.ek hk (to (ah O.eg (O.G.T.g.keeps R.keep)) (T_ O.G.X O.G.T.g hx) ?_) hd)
 exact callWith_def (first:=[]) hf hp (h O Z s pos _ R λ vs s₂ Uq R₂ hc=>⟨O.G.X.keeps R₂.keep,hc vs rfl O Z s₂ _ R₂ K⟩)
end
end
section
structure Fl(U:AH)(L:List (Addr×ba)):Prop where
 xt:∀p∈L,U.get p.1=some p.2
 nd:(L.map (·.1)).Nodup
section
variable{C:Cx}{F:dD}{n:Nat}{m:Str->Option Value}{U U' :AH}{X:Sx}{a:Addr}{o o' :ba}{L L' :List (Addr×ba)}
theorem Fl.fresh(T:Fl U L)(h:U.get a=none):Fl (U.put a o) ((a,o)::L):=by
 have hne:∀p∈L,p.1≠a:=λ p hp e=>by have:=T.xt p hp;replace this:=h▸e▸this;exact (bH this).elim
 refine ⟨λ p hp=>?_,aY.mpr ⟨λ q=>?_,T.nd⟩⟩
 ·rcases aM.mp hp with rfl | hp
  ·exact AH.get_put_self _ _ _
  ·exact ae (AH.get_put_ne (hne p hp)) (T.xt p hp)
 ·exact aH (aF.mp q) λ p hp e=>(hne p hp e)
theorem Fl.turn(T:Fl U L)(h:jP a o o' L L'):Fl (U.put a o') L' :=by
 refine ⟨λ p hp=>?_,h.keys▸T.nd⟩
 rcases h.of T.nd p hp with rfl | ⟨h1,h2⟩
 ·exact AH.get_put_self _ _ _
 ·exact ae (AH.get_put_ne h2) (T.xt p h1)
theorem tI:∀(fs:List (Str×Value)) (x:Str) (v:Value),nsLook x fs=none->j5 fs x v=fs++[(x,v)]
 | [],x,v,_=>rfl
 | (k,w)::r,x,v,h=>by
  unfold nsLook at h
  unfold j5
  split at h
  ·exact (hV h).elim
  ·rename_i e
   exact ae (if_neg e) (ah (tI r x v h) rfl)
end
section
variable{C:Cx}{F:dD}{n:Nat}{m:Str->Option Value}{U U' :AH}{X:Sx}{A A' :Ad}{S S' :SS}{me ns:Addr}{E E' :List (Addr×ba)}
end
end
section
section
variable{C:Cx}{F:dD}{n:Nat}{m:Str->Option Value}{U U' :AH}{X:Sx}{A A' :Ad}{S S' :SS}{me ns:Addr}{E E' :List (Addr×ba)}
noncomputable def Mg:Option Value->Option Str
 | some (.str x _)=>some x
 | _=>none
noncomputable def Hv(K:Frag)(c:Value)(i:Nat):Option Value:=match c with
 | .ref a=>match ((K.lookup a).map (λ(o:Obj)=>o.data):Option Data) with
  | some (oA vs)=>vs[i]?
  | _=>none
 | _=>none
noncomputable def uN(K:Frag)(f:Addr):Option Str:=match ((K.lookup f).map (λ(o:Obj)=>o.data):Option Data) with
 | some (Data.func fd)=>Mg (Hv K fd.code 2)
 | _=>none
structure Rq(X:Sx):Prop where
 file:uN (KK X.w.params) 118=some (X.prog.main.file:Str)
 top:(X.prog.main.scope.names.lookup ("super":Str)).isSome=false
structure Jy(S:SS)(ls:List Int)(P:SS->Prop):Prop where
 tr:Tr S
 lock:S.lock=none
 len:ls.length<60
 rng:∀l∈ls,-1000<=l/\l<=1000
 b1:S.log.length<90000
 b2:S.rows.length<90000
 b3:Wz S 80000
 b4:S.row.length<90000
 no:¬ls.Pairwise (λ x y=>y≠-x)->P (fL S ls)
 yes:ls.Pairwise (λ x y=>y≠-x)->∀c,vk ls c->P (Ft (fL S ls) c)
noncomputable def iY(many:Nat):SS:={known:=[],heights:=[],causes:=[],row:=[],begins:=[],seen:=0,liked:=[],rows:=[],watch:=[],heats:=(bk many).map λ(i:Nat)=>((i:Int)+1,(0:Int)),gain:=1,log:=[],refuted:=false,blamed:=[],clashes:=0,limit:=0,lock:=none}
noncomputable abbrev My(me ns K H Cs Rw B Lk Rs Wt Ht Lg Bl:Addr):Ad
 | .self=>me
 | .ns=>ns
 | .known=>K
 | .heights=>H
 | .causes=>Cs
 | .row=>Rw
 | .begins=>B
 | .liked=>Lk
 | .rows=>Rs
 | .watching=>Wt
 | .heats=>Ht
 | .log=>Lg
 | .blamed=>Bl
 | _=>me
theorem Hk(hm:many<=900):nS (iY many):=by
 have hn:∀{α:Type},Kv ([]:List (Int×α)):=λ{α}=>⟨.nil,λ k h=>by cases h⟩
 refine ⟨hn,hn,hn,hn,⟨?_,λ k hk=>?_⟩,⟨.nil,λ k h=>by cases h⟩,a0 _,a0 _,a0 _,a0 _,λ l h=>by cases h⟩
 ·refine ((ah bI ?_):(((bk many).map λ(i:Nat)=>((i:Int)+1,(0:Int))).map (·.1)).Nodup)
  unfold gp
  exact gk cE ((g_ (n:=many)).imp λ h e=>h (by have:((_:Nat):Int)+1=((_:Nat):Int)+1:=e;lia))
 ·have hk' :k∈((bk many).map λ(i:Nat)=>((i:Int)+1,(0:Int))).map (·.1):=hk
  replace hk' :=bI▸hk'
  (try clear hk);refine aH (aF.mp hk') λ i hi Uv=>?_;subst Uv
  have:=bK.mp hi
  refine (?_:0<=(i:Int)+1/\(i:Int)+1<=1000)
  exact MK this hm
end
end
section
theorem Tr.true_(T:Tr S)(h:l∈S.row):says S l=some true:=by
 unfold says;refine ah (T.at_ h) ?_;simp
theorem natAbs_eq(h:a.natAbs=b.natAbs):a=b\/a=-b:=xw.mp h
theorem Tr.false_(T:Tr S)(h0:l≠0)(h:-l∈S.row):says S l=some false:=by
 unfold says
 have:=T.at_ h
 replace this:=(b9 ..)▸this
 refine ah this ?_
 by_cases hp:l>0
 ·simp [hp];exact zv hp
 ·simp [hp];exact jV.mpr ⟨jE.mp hp,h0⟩
theorem Tr.cases(T:Tr S)(h0:l≠0):(says S l=some true/\l∈S.row)\/(says S l=some false/\-l∈S.row)\/(says S l=none/\l∉S.row/\-l∉S.row):=by
 by_cases h1:l∈S.row
 ·exact .inl ⟨T.true_ h1,h1⟩
 by_cases h2:-l∈S.row
 ·exact .inr (.inl ⟨T.false_ h0 h2,h2⟩)
 refine .inr (.inr ⟨?_,h1,h2⟩)
 unfold says
 (try clear h0);cases e:lk S.known l.natAbs with
 | none=>rfl
 | some b=>
  (try clear h0);refine cX ((T.kn _ _).mp e) λ x hx e1 e2=>?_
  have:x.natAbs=l.natAbs:=by exact_mod_cast e1
  clear e e1 e2;rcases natAbs_eq this with rfl | rfl
  ·exact absurd hx h1
  ·exact absurd hx h2
theorem Tr.mem_true(T:Tr S)(h0:l≠0):says S l=some true↔l∈S.row:=by
 rcases T.cases h0 with ⟨a,b⟩ | ⟨a,b⟩ | ⟨a,b,c⟩
 ·exact ⟨λ V=>b,λ V=>a⟩
 ·exact ⟨λ h=>(by replace h:=a▸h;have Uv:=sI h;clear h;exact (v8 Uv).elim),λ h=>T.true_ h⟩
 ·exact ⟨λ h=>(by replace h:=a▸h;exact (bH h).elim),λ h=>absurd h b⟩
theorem Tr.mem_false(T:Tr S)(h0:l≠0):says S l=some false↔-l∈S.row:=by
 rcases T.cases h0 with ⟨a,b⟩ | ⟨a,b⟩ | ⟨a,b,c⟩
 ·exact ⟨λ h=>(by replace h:=a▸h;have Uy:=sI h;clear h;exact (iP Uy).elim),λ h=>T.false_ h0 h⟩
 ·exact ⟨λ V=>b,λ V=>a⟩
 ·exact ⟨λ h=>(by replace h:=a▸h;exact (bH h).elim),λ h=>absurd h c⟩
theorem Tr.not_both(T:Tr S)(h0:l≠0)(h1:l∈S.row)(h2:-l∈S.row):False:=by
 have a:=T.true_ h1
 replace a:=T.false_ h0 h2▸a;have UB:=sI a;clear a;exact (v8 UB).elim
theorem Tr.inj(T:Tr S){i j:Nat}(hi:S.row[i]? =some x)(hj:S.row[j]? =some y)(h:x.natAbs=y.natAbs):i=j:=by
 have hi' :(S.row.map bE)[i]? =some x.natAbs:=ae ay (ah hi rfl)
 have hj' :(S.row.map bE)[j]? =some y.natAbs:=ae ay (ah hj rfl)
 have hl:i<(S.row.map bE).length:=(al.mp hi').1
 exact (gQ hl T.nd).mp (ae hi' (ah hj' (ah h rfl)))
theorem Tr.let_(T:Tr S)(h:says S l=none):Tr (ln S l c):=by
 have hn:lk S.known l.natAbs=none:=by
  unfold says at h
  cases e:lk S.known l.natAbs with
  | none=>rfl
  | some b=>replace h:=e▸h;exact (hV h).elim
 have hnot:∀x∈S.row,x.natAbs≠l.natAbs:=λ x hx e=>by
  have:=T.at_ hx
  replace this:=hn▸e▸this;exact (bH this).elim
 refine ⟨?_,λ v b=>?_⟩
 ·refine ((ah aE (gk cU (dn T.nd (by simp) (λ a ha b hb=>(aH (aF.mp ha) λ x hx UC=>?_))))):((S.row++[l]).map bE).Nodup);subst UC
  exact ah (aq.mp hb) (hnot x hx)
 ·refine ((ah (eV ..) ?_):lk (ins S.known l.natAbs (decide (l>0))) v=some b↔∃x∈S.row++[l],_)
  constructor
  ·intro e
   split at e
   ·rename_i hv
    have UF:=sI e;clear e;subst UF
    exact fV l (by simp) hv.symm rfl
   ·exact cX ((T.kn v b).mp e) λ x hx e1 e2=>(fV x (av _ hx) e1 e2)
  ·intro UP;refine cX UP λ x hx e1 e2=>?_;clear UP
   rcases az.mp hx with hx | hx
   ·have hv:¬v=(l.natAbs:Int):=λ e=>hnot x hx (by exact_mod_cast e1.trans e)
    exact ae (if_neg hv) ((T.kn v b).mpr ⟨x,hx,e1,e2⟩)
   ·rw [aq.mp hx] at e1 e2
    exact ae (if_pos e1.symm) (ah e2 rfl)
noncomputable def fD(bs:List Nat)(i:Nat):Nat:=(bs.filter λ b=>decide (b<=i)).length
theorem nF(h:∀b∈bs,b<=i):fD bs i=bs.length:=by
 unfold fD
 exact ah (o9.mpr λ b hb=>decide_eq_true (h b hb)) rfl
theorem qj(bs:List Nat)(i:Nat):fD bs i<=bs.length:=gF _ _
theorem j6(as bs:List Nat)(i:Nat):fD (as++bs) i=fD as i+fD bs i:=by unfold fD;exact ah (dZ ..) (ae aA rfl)
theorem pn(h:∀b∈bs,i<b):fD bs i=0:=by
 unfold fD
 exact ah (xI.mpr λ b hb=>by have:=h b hb;simp;exact this) rfl
theorem lm(hs:bs.Pairwise (·<=·))(hb:bs[k]? =some b)(hi:i<b):fD (bs.take k) i=fD bs i:=by
 conv=>rhs;rw [<-fj k bs,j6]
 rewrite [pn (bs:=bs.drop k),kG]
 ·rfl
 intro x hx
 refine aS (aL.mp hx) λ j hj=>?_
 replace hj:=qc▸hj
 rcases d4 j with rfl | Zg
 ·replace hj:=hb▸(kG ..)▸hj;(try clear hb);have UQ:=sI hj;clear hj;subst UQ;exact hi
 ·have:=(cW.mp hs) k (k+j) (al.mp hb).1 (al.mp hj).1 (au (aQ (aK _)) (iw Zg _))
  replace this:=(al.mp hj).2▸(al.mp hb).2▸this
  exact ai hi this
theorem pq(h:i<=j):fD bs i<=fD bs j:=by
 unfold fD
 induction bs with
 | nil=>exact aw _
 | cons b bs ih=>
  refine ah cO (ah cO ?_)
  by_cases h1:b<=i
  ·have h2:b<=j:=ac h1 h
   simp [h1,h2];exact ih
  ·by_cases h2:b<=j
   ·simp [h1,h2];exact ac ih (ax _ _)
   ·simp [h1,h2];exact ih
theorem DW(hs:bs.Pairwise (·<=·))(hb:bs[k]? =some b)(hi:b<=i):k+1<=fD bs i:=by
 conv=>rhs;rw [<-fj (k+1) bs,j6]
 have:fD (bs.take (k+1)) i=(bs.take (k+1)).length:=nF λ x hx=>by
  refine aS (aL.mp hx) λ j hj=>?_
  replace hj:=bS▸hj
  split at hj
  ·rename_i hjk
   (try clear hx);rcases bV j k with h | h
   ·have:=(cW.mp hs) j k (al.mp hj).1 (al.mp hb).1 h
    replace this:=(al.mp hj).2▸(al.mp hb).2▸this
    exact ac this hi
   ·have:j=k:=a_ (aQ hjk) h
    clear h hjk;subst this;replace hj:=hb▸hj;(try clear hb);have UT:=sI hj;clear hj;subst UT;exact hi
  ·exact (bH hj).elim
 refine ah this (ah bL ?_)
 have:=(al.mp hb).1
 exact N7 this
theorem yB(hs:bs.Pairwise (·<=·))(hb:bs[k]? =some b)(hi:i<b):fD bs i<=k:=dt (lm hs hb hi) (ac (qj _ _) (ah bL (iJ _ _)))
end
section
structure nR(N:Nat)(S:SS):Prop where
 tr:Tr S
 var:∀l∈S.row,1<=l.natAbs/\l.natAbs<=N
 bs:S.begins.Pairwise (·<=·)
 be:∀b∈S.begins,b<=S.row.length
 ht:∀(i:Nat) (l:Int),S.row[i]? =some l->lk S.heights l.natAbs=some (fD S.begins i)
 ca:∀(i:Nat) (l:Int),S.row[i]? =some l->∃o:Option Nat,lk S.causes l.natAbs=some o/\(∀c,o=some c->∃r,S.rows[c]? =some r/\l∈r/\∀x∈r,x≠l->-x∈S.row.take i)/\(i∈S.begins->o=none)/\(i∉S.begins->0<fD S.begins i->∃c,o=some c)
theorem nR.turn(T:nR N S)(e1:S'.known=S.known)(e2:S'.heights=S.heights)(e3:S'.causes=S.causes)(e4:S'.row=S.row)(e5:S'.begins=S.begins)
  (h:∀(c:Nat) (r:List Int),S.rows[c]? =some r->∃r',S'.rows[c]? =some r' /\∀x,x∈r' ↔x∈r):nR N S' :=by
 obtain ⟨t,v,b1,b2,h1,h2⟩:=T
 refine ⟨⟨ah e4 t.nd,ah e1 (ah e4 t.kn)⟩,ah e4 v,ah e5 b1,ah e4 (ah e5 b2),ah e4 (ah e2 (ah e5 h1)),?_⟩
 refine ah e4 (ah e3 (ah e5 ?_))
 intro i l hi
 exact pI (h2 i l hi) λ o q1 q2 q3 q4=>(oa o q1 (λ c hc=>(cX (q2 c hc) λ r hr hl hx=>(aH (h c r hr) λ r' hr' he=>(fV r' hr' ((he l).mpr hl) (λ x hx' =>hx x ((he x).mp hx')))))) q3 q4)
theorem nR.len(T:nR N S):S.row.length<=N:=by
 have hn:(S.row.map λ l=>((l.natAbs:Int)-1)).Nodup:=by
  have:=T.tr.nd
  unfold gp at this⊢
  rw [cE] at this⊢
  exact this.imp λ h e=>h (Er e)
 have:=ix N _ hn λ k hk=>by
  refine aH (aF.mp hk) λ l hl Uv=>?_;subst Uv
  have:=T.var l hl;exact Ep this
 rwa [ag] at this
theorem dP{α:Type}{xs ys:List α}(h:i<=xs.length):(xs++ys).take i=xs.take i:=List.take_append_of_le_length h
theorem nR.let_(T:nR N S)(hs:says S l=none)(hv:1<=l.natAbs/\l.natAbs<=N)
  (hc:∀k,c=some k->∃r,S.rows[k]? =some r/\l∈r/\∀x∈r,x≠l->-x∈S.row) (h1:S.row.length∈S.begins->c=none) (h2:S.row.length∉S.begins->S.begins≠[]->∃k,c=some k):nR N (ln S l c):=by
 have htr:=T.tr.let_ (c:=c) hs
 have hlen:S.row.length<S.row.length+1:=aK _
 have hold:∀(i:Nat) (x:Int),S.row[i]? =some x->(x.natAbs:Int)≠l.natAbs:=λ i x hx e=>by
  have:=T.tr.at_ (am hx)
  unfold says at hs
  replace this:=e▸this
  replace hs:=this▸hs;exact (hV hs).elim
 have hrow:∀(i:Nat) (x:Int),(S.row++[l])[i]? =some x->S.row[i]? =some x\/(i=S.row.length/\x=l):=λ i x hx=>by
  rcases bV i S.row.length with h | h
  ·replace hx:=cK h▸hx;exact .inl hx
  ·replace hx:=c8 h▸hx
   have:i-S.row.length=0:=by
    rcases d4 (i-S.row.length) with h | h
    ·exact h
    ·rewrite [bD (by simp;exact bB h)] at hx;exact (bH hx).elim
   replace hx:=this▸hx
   exact .inr ⟨Od h this,(bq hx).symm⟩
 refine ⟨htr,λ x hx=>?_,T.bs,λ b hb=>?_,λ i x hx=>?_,λ i x hx=>?_⟩
 ·rcases az.mp hx with h | h
  ·exact T.var x h
  ·exact ah (aq.mp h) hv
 ·refine ((ah aA (ah aW ?_)):b<=(S.row++[l]).length);have:=T.be b hb;exact ac this (ax _ _)
 ·refine ((ae (eV ..) ?_):lk (ins S.heights l.natAbs S.begins.length) x.natAbs=some (fD S.begins i))
  clear hc hs htr hv;rcases hrow i x hx with h | ⟨rfl,rfl⟩
  ·exact ae (if_neg (hold i x h)) (T.ht i x h)
  ·exact ae (if_pos rfl) (ah (nF T.be) rfl)
 ·refine ((ah (eV ..) ?_):∃o,lk (ins S.causes l.natAbs c) x.natAbs=some o/\_)
  clear hs htr hv;rcases hrow i x hx with h | ⟨rfl,rfl⟩
  ·exact ah (if_neg (hold i x h)) (pI (T.ca i x h) λ o q1 q2 q3 q4=>(oa o q1 (λ k hk=>(cX (q2 k hk) λ r hr hl hy=>(fV r hr hl (λ y Xh hne=>(((ah (dP (aG (al.mp h).1)) (hy y Xh hne)):-y∈(S.row++[l]).take i)))))) q3 q4))
  ·refine ah (if_pos rfl) (oa c rfl (λ k hk=>?_) h1 (λ hn hp=>h2 hn λ e=>?_))
   ·exact cX (hc k hk) λ r hr hl hy=>(fV r hr hl (λ y Xh hne=>(((ah (dP (aw _)) (ah bn (hy y Xh hne))):-y∈(S.row++[x]).take S.row.length))))
   ·have hp' :0<fD S.begins S.row.length:=hp
    replace hp' :=e▸hp';exact absurd hp' (by simp [fD])
theorem nR.begin_(T:nR N S):nR N (S.uBegins (S.begins++[S.row.length])):=by
 have hlev:∀i,i<S.row.length->fD (S.begins++[S.row.length]) i=fD S.begins i:=λ i hi=>ae (j6 ..) (ah (pn (bs:=[S.row.length]) (λ b hb=>ah (aq.mp hb) hi)) (ae (kG ..) rfl))
 refine ⟨⟨T.tr.nd,T.tr.kn⟩,T.var,?_,λ b hb=>?_,λ i l hi=>?_,λ i l hi=>?_⟩
 ·exact ((gk jJ (dn T.bs (iS _ _) (λ a ha b hb=>ah (aq.mp hb) (T.be a ha)))):(S.begins++[S.row.length]).Pairwise _)
 ·rcases az.mp hb with h | h
  ·exact T.be b h
  ·exact ah (aq.mp h) (aw _)
 ·exact ((ah (hlev i (al.mp hi).1) (T.ht i l hi)):lk S.heights _=some (fD (S.begins++[S.row.length]) i))
 ·have hlt:=(al.mp hi).1
  refine pI (T.ca i l hi) λ o q1 q2 q3 q4=>?_
  have hlt' :i<S.row.length:=hlt
  have hm:i∈S.begins++[S.row.length]↔i∈S.begins:=gk az (gk aq ⟨λ h=>h.elim id λ e=>absurd (bP hlt' e) (by decide),.inl⟩)
  refine oa o q1 q2 (λ h=>q3 (hm.mp h)) (λ h h' =>q4 (λ q=>h (hm.mpr q)) ?_)
  have:fD (S.begins++[S.row.length]) i=fD S.begins i:=hlev i hlt
  exact dt this h'
theorem yn(k:Nat)(S:SS):(i8 k S).heights=S.heights/\(i8 k S).causes=S.causes/\(i8 k S).begins=S.begins/\(i8 k S).rows=S.rows/\(i8 k S).watch=S.watch:=kJ (io k S) λ V V V e=>(ah e (pF rfl rfl rfl rfl rfl))
theorem lu(hb:S.begins[k]? =some b)(Vh:b<=S.row.length):(cP S k).row=S.row.take b/\(cP S k).begins=S.begins.take k/\(cP S k).seen=b/\(cP S k).heights=S.heights/\(cP S k).causes=S.causes/\(cP S k).rows=S.rows/\(cP S k).watch=S.watch:=by
 unfold cP
 refine ah hb (t9 (yn (S.row.length-b) S) λ q1 q2 q3 q4 q5=>?_)
 have hr:(i8 (S.row.length-b) S).row=S.row.take b:=ae (pi ..) (ah (IM Vh) rfl)
 exact Ol hr rfl (((ah hr (ae bL (ae (dW Vh) rfl))):(i8 _ S).row.length=b)) q1 q2 q4 q5
theorem nR.back(T:nR N S)(k:Nat):nR N (cP S k):=by
 cases hb:S.begins[k]? with
 | none=>exact ah (kc hb) T
 | some b=>
  have Vh:=T.be b (am hb)
  refine t8 (lu hb Vh) λ e1 e2 e3 e4 e5 e6 e7=>?_
  have htr:Tr (cP S k):=by
   have h:=un (S.row.length-b) T.tr
   have hkn:(cP S k).known=(i8 (S.row.length-b) S).known:=by unfold cP;exact ah hb rfl
   have hrw:(cP S k).row=(i8 (S.row.length-b) S).row:=by unfold cP;exact ah hb rfl
   exact ⟨ah hrw h.nd,ah hkn (ah hrw h.kn)⟩
  have hrow:∀(i:Nat) (l:Int),(S.row.take b)[i]? =some l->S.row[i]? =some l/\i<b:=λ i l h=>by
   replace h:=bS▸h
   split at h
   ·exact ⟨h,by assumption⟩
   ·exact (bH h).elim
  have hmem:∀i,i<b->(i∈S.begins.take k↔i∈S.begins):=λ i hi=>by
   refine ⟨λ h=>cH _ _ h,λ h=>?_⟩
   clear e1 e2 e3 e4 e5 e6 e7 Vh hrow htr;refine aS (aL.mp h) λ j hj=>?_
   have hjk:j<k:=by
    refine gc λ hkj=>?_
    have XG:=(al.mp hj)
    have hb1:=(al.mp hb)
    rcases bV k j with h' | h'
    ·have:=(cW.mp T.bs) k j hb1.1 XG.1 h'
     replace this:=XG.2▸hb1.2▸this;exact cj (ai hi this) rfl
    ·have:j=k:=a_ h' hkj
     clear h' hb1 hkj;subst this;replace hj:=hb▸hj;clear hb;have Uy:=sI hj;clear hj;subst Uy;exact cC _ hi
   exact aL.mpr ⟨j,ae bS (ae (if_pos hjk) hj)⟩
  refine ⟨htr,?_,?_,?_,?_,?_⟩
  ·exact ah e1 (λ l hl=>T.var l (cH _ _ hl))
  ·exact ah e2 (T.bs.sublist (gP _ _))
  ·refine ah e1 (ah e2 (ah bL ?_))
   intro x hx
   refine aS (aL.mp hx) λ j hj=>?_
   replace hj:=bS▸hj
   split at hj
   ·rename_i hjk
    have XG:=(al.mp hj)
    have hb1:=(al.mp hb)
    have:=(cW.mp T.bs) j k XG.1 hb1.1 hjk
    replace this:=XG.2▸hb1.2▸this
    exact vz.mpr ⟨this,ac this Vh⟩
   ·exact (bH hj).elim
  ·refine ah e1 (ah e2 (ah e4 ?_))
   intro i l hi
   exact aP (hrow i l hi) λ h1 h2=>(ah (lm T.bs hb h2) (T.ht i l h1))
  ·refine ah e1 (ah e2 (ah e5 (ah e6 ?_)))
   intro i l hi
   exact aP (hrow i l hi) λ h1 h2=>(pI (T.ca i l h1) λ o q1 q2 q3 q4=>(oa o q1 (λ c hc=>(cX (q2 c hc) λ r hr hl hx=>(fV r hr hl (λ x hx' hne=>(ah i6 (ah (dW (aG h2)) (hx x hx' hne))))))) (λ h=>q3 ((hmem i h2).mp h)) (λ h h' =>q4 (λ q=>h ((hmem i h2).mpr q)) (by replace h' :=lm T.bs hb h2▸h';exact h'))))
end
section
noncomputable def wl(S:SS)(l:Int):List Nat:=(lk S.watch l).getD []
noncomputable def wp(S:SS)(lost:Int)(VY:List Nat)(l:Int):List Nat:=wl S l++(if l=lost then VY else [])
noncomputable def Good(N:Nat)(r:List Int):Prop:=2<=r.length/\(r.map bE).Nodup/\∀l∈r,1<=l.natAbs/\l.natAbs<=N
structure mu(N:Nat)(S:SS)(lost:Int)(VY:List Nat):Prop where
 w1:∀(i:Nat) (r:List Int),S.rows[i]? =some r->Good N r
 w2:∀l,(wp S lost VY l).Nodup
 w3:∀l i,i∈wp S lost VY l↔∃r,S.rows[i]? =some r/\(r[0]? =some l\/r[1]? =some l)
theorem jw(S:SS)(lost l:Int):wp S lost [] l=wl S l:=by unfold wp;refine eC (λ V=>?_) λ V=>?_<;>simp
theorem mu.any(W:mu N S lost [])(lost' :Int):mu N S lost' []:=⟨W.w1,λ l=>by refine ah (jw ..) ?_;rewrite [<-jw S lost];exact W.w2 l,λ l i=>by refine ah (jw ..) ?_;rewrite [<-jw S lost];exact W.w3 l i⟩
theorem mu.same(W:mu N S lost VY)(e1:S'.rows=S.rows)(e2:S'.watch=S.watch):mu N S' lost VY:=by
 have:∀l,wp S' lost VY l=wp S lost VY l:=λ l=>by unfold wp wl;exact ah e2 rfl
 exact ⟨ah e1 W.w1,λ l=>ah (this ..) (W.w2 l),λ l i=>ah (this ..) (ah e1 (W.w3 l i))⟩
theorem pa(S:SS)(l:Int)(k:Nat)(x:Int):wl (gq S l k) x=if x=l then wl S l++[k] else wl S x:=by
 refine ((ah (eV ..) ?_):(lk (ins S.watch l _) x).getD []=_)
 split at⊢<;>rfl
theorem C0(S:SS)(l x:Int):wl (wn S l) x=if x=-l then [] else wl S x:=by
 refine ((ah (eV ..) (ah (oD ..) ?_)):(lk (ins (del S.watch (-l)) (-l) []) x).getD []=_)
 split at⊢<;>rfl
theorem mu.open_(W:mu N S lost []):mu N (wn S l) (-l) (wl S (-l)):=by
 have e:∀x,wp (wn S l) (-l) (wl S (-l)) x=wp S lost [] x:=λ x=>by
  refine ah (jw ..) ?_
  unfold wp
  refine ah (C0 ..) ?_
  split at⊢
  ·rename_i h;exact ah h rfl
  ·simp
 exact ⟨W.w1,λ x=>ah (e ..) (W.w2 x),λ x i=>ah (e ..) (W.w3 x i)⟩
theorem tY:dg (x::y::t) lost=if x=lost then y::lost::t else x::y::t:=by unfold dg;simp
theorem oF(hg:Good N r)(h:r[0]? =some lost\/r[1]? =some lost):∃a t,dg r lost=a::lost::t/\(a::lost::t).Perm r/\∀l,((r[0]? =some l\/r[1]? =some l)↔(l=a\/l=lost)):=by
 match r,hg.1,h with
 | x::y::t,_,h=>
  refine ah tY ?_
  by_cases e:x=lost
  ·(try clear h);subst e
   refine jG y t (if_pos rfl) (.swap _ _ _) (λ l=>?_)
   simp only [l9,fW,jZ]
   exact ⟨λ h=>h.elim (λ e=> .inr e.symm) (λ e=> .inl e.symm),λ h=>h.elim (λ e=> .inr e.symm) (λ e=> .inl e.symm)⟩
  ·have hy:y=lost:=by
    simp only [l9,fW,jZ] at h
    exact h.resolve_left e
   (try clear h);subst hy
   refine jG x t (if_neg e) (.refl _) (λ l=>?_)
   simp only [l9,fW,jZ]
   exact ⟨λ h=>h.elim (λ e=> .inl e.symm) (λ e=> .inr e.symm),λ h=>h.elim (λ e=> .inl e.symm) (λ e=> .inr e.symm)⟩
theorem Good.perm(h:Good N r)(p:r'.Perm r):Good N r' :=⟨ah p.length_eq (h.1),((p.map bE).nodup_iff).mpr h.2.1,λ l hl=>h.2.2 l (p.mem_iff.mp hl)⟩
theorem Good.ne(h:Good N r){i j:Nat}(hi:r[i]? =some x)(hj:r[j]? =some y)(Vw:i≠j):x.natAbs≠y.natAbs:=λ e=>by
 have hi' :(r.map bE)[i]? =some x.natAbs:=ae ay (ah hi rfl)
 have hj' :(r.map bE)[j]? =some y.natAbs:=ae ay (ah hj rfl)
 exact Vw ((gQ (al.mp hi').1 h.2.1).mp (ae hi' (ah hj' (ah e rfl))))
theorem gG{S:SS}(hr:S.rows[i]? =some r)(j:Nat):(S.rows.set i r')[j]? =if j=i then some r' else S.rows[j]? :=by
 have hl:=(al.mp hr).1
 by_cases e:j=i
 ·(try clear hr);subst e;exact ah (if_pos rfl) (ae (dw hl) rfl)
 ·exact ah (if_neg e) (ae (ox (ik e)) rfl)
theorem mu.stay{i:Nat}{p:List Nat}{r:List Int}(W:mu N S lost (i::p))(hr:S.rows[i]? =some r):mu N (gq (S.uRows (S.rows.set i (dg r lost))) lost i) lost p:=by
 have hi:r[0]? =some lost\/r[1]? =some lost:=by
  refine aH ((W.w3 lost i).mp (by unfold wp;exact ah (if_pos rfl) (ak _ (.head _)))) λ UK h1 h2=>?_
  replace h1:=hr▸h1;(try clear hr);have Uv:=sI h1;clear h1;subst Uv;exact h2
 refine gJ (oF (W.w1 i r hr) hi) λ a t e hp hw=>?_
 have he:∀l,wp (gq (S.uRows (S.rows.set i (dg r lost))) lost i) lost p l=wp S lost (i::p) l:=λ l=>by
  unfold wp
  refine ah (pa ..) ?_
  by_cases h:l=lost
  ·exact ah (if_pos h) (ah (if_pos h) (ah (if_pos h) (ah h (((ae (cN ..) rfl):(wl S lost++[i])++p=wl S lost++i::p)))))
  ·exact ah (if_neg h) (ah (if_neg h) (ah (if_neg h) rfl))
 refine ⟨λ j UK h=>?_,λ l=>ah (he ..) (W.w2 l),λ l j=>?_⟩
 ·have h' :(S.rows.set i (dg r lost))[j]? =some UK:=h
  rewrite [gG hr] at h'
  split at h'
  ·(try clear h);have Uy:=sI h';clear h';subst Uy;exact ah e ((W.w1 i r hr).perm hp)
  ·exact W.w1 j UK h'
 ·refine ah (he ..) (gk (W.w3 l j) (?_:_↔∃UK,(S.rows.set i (dg r lost))[j]? =some UK/\_))
  rewrite [gG hr]
  by_cases h:j=i
  ·clear W he hi hp;subst h
   refine ah (if_pos rfl) (ah hr (ah e ?_))
   constructor
   ·clear e hr;intro UB;refine aH UB λ UK h1 h2=>?_;clear UB;have UC:=sI h1;clear h1;subst UC
    refine bY _ rfl ?_
    rcases (hw l).mp h2 with rfl | rfl
    ·exact .inl rfl
    ·exact .inr rfl
   ·intro UF;refine aH UF λ UK h1 h2=>?_;clear UF;have UP:=sI h1;clear h1;subst UP
    refine bY _ rfl ((hw l).mpr ?_)
    rcases h2 with h2 | h2
    ·exact .inl (bq h2).symm
    ·exact .inr (bq h2).symm
  ·rw [if_neg h]
theorem mu.move{N:Nat}{i k:Nat}{p:List Nat}{r:List Int}(W:mu N S lost (i::p))(hr:S.rows[i]? =some r)(hk:2<=k)(hz:(dg r lost)[k]? =some z):
  mu N (gq (S.uRows (S.rows.set i (((dg r lost).set 1 z).set k lost))) z i) lost p/\(((dg r lost).set 1 z).set k lost).Perm r:=by
 have hi:r[0]? =some lost\/r[1]? =some lost:=by
  (try clear hz);refine aH ((W.w3 lost i).mp (by unfold wp;exact ah (if_pos rfl) (ak _ (.head _)))) λ UK h1 h2=>?_
  replace h1:=hr▸h1;clear hr;have UQ:=sI h1;clear h1;subst UQ;exact h2
 have hg:=W.w1 i r hr
 refine gJ (oF hg hi) λ a t e hp hw=>?_
 rw [e] at hz⊢
 have hkl:=(al.mp hz).1
 have V8 :=hg.perm hp
 have hza:z.natAbs≠a.natAbs:=V8.ne hz (j:=0) rfl (cj (aG hk))
 have hzl:z.natAbs≠lost.natAbs:=V8.ne hz (j:=1) rfl (cj hk)
 have hne1:z≠a:=λ q=>hza (ah q rfl)
 have hne2:z≠lost:=λ q=>hzl (ah q rfl)
 have hpm:(((a::lost::t).set 1 z).set k lost).Perm (a::lost::t):=by
  have h1:1<(a::lost::t).length:=by simp
  have:=List.set_set_perm (as:=a::lost::t) h1 hkl
  replace this:=(al.mp hz).2▸this
  exact this
 have Yr:=hpm.trans hp
 refine ⟨?_,Yr⟩
 clear e hi hkl hp hpm hz hza hzl;obtain ⟨k',rfl⟩:∃k',k=k' +2:=⟨k-2,dc (gw hk)⟩
 have hr'' :((a::lost::t).set 1 z).set (k' +2) lost=a::z::t.set k' lost:=rfl
 rw [hr''] at Yr⊢
 have hiz:i∉wl S z:=λ h=>by
  clear hg Yr;refine aH ((W.w3 z i).mp (by unfold wp;exact av _ h)) λ UK h1 h2=>?_
  replace h1:=hr▸h1;clear hr;have UT:=sI h1;clear h1;subst UT
  rcases (hw z).mp h2 with q | q
  ·exact hne1 q
  ·exact hne2 q
 have hip:i∉wl S lost++p:=λ h=>by
  have:=W.w2 lost
  unfold wp at this
  replace this:=if_pos rfl▸this;rewrite [cU] at this
  refine ck this λ q1 q2 q3=>?_;clear this
  rcases az.mp h with h | h
  ·exact q3 i h i (.head _) rfl
  ·exact (aY.mp q2).1 h
 have he:∀l,wp (gq (S.uRows (S.rows.set i (a::z::t.set k' lost))) z i) lost p l=if l=z then wl S z++[i] else if l=lost then wl S lost++p else wl S l:=λ l=>by
  unfold wp
  refine ah (pa ..) ?_
  by_cases h:l=z
  ·refine ah (if_pos h) (ah (if_pos h) (ah (if_neg (by exact ah h hne2)) (ae (cw ..) ?_)));rfl
  ·refine ah (if_neg h) (ah (if_neg h) ?_)
   by_cases h' :l=lost
   ·exact ah (if_pos h') (ah (if_pos h') (ah h' rfl))
   ·exact ah (if_neg h') (ah (if_neg h') (ae (cw ..) rfl))
 have old:∀l,l≠lost->wp S lost (i::p) l=wl S l:=λ l h=>by unfold wp;exact ah (if_neg h) (ae (cw ..) rfl)
 have oldL:wp S lost (i::p) lost=wl S lost++i::p:=by unfold wp;exact ah (if_pos rfl) rfl
 refine ⟨λ j UK h=>?_,λ l=>?_,λ l j=>?_⟩
 ·have h' :(S.rows.set i _)[j]? =some UK:=h
  rewrite [gG hr] at h'
  split at h'
  ·(try clear h);have U9:=sI h';clear h';subst U9;exact hg.perm Yr
  ·exact W.w1 j UK h'
 ·refine ah (he ..) (eC (λ V=>?_) λ V=>?_)
  ·have:=W.w2 z
   replace this:=old z hne2▸this
   exact cU.mpr ⟨this,by simp,λ x hx y hy=>ah (aq.mp hy) (λ q=>hiz (q▸hx))⟩
  ·refine eC (λ V=>?_) λ h=>?_
   ·have:=W.w2 lost
    replace this:=oldL▸this
    exact this.sublist (PF (.refl _) (bC _ _))
   ·exact dt (old l h) (W.w2 l)
 ·refine ah (he ..) (?_:_↔∃UK,(S.rows.set i _)[j]? =some UK/\_)
  rewrite [gG hr]
  by_cases hj:j=i
  ·clear he hg hiz hne1 hne2 Yr hr'' oldL;subst hj
   refine ah (if_pos rfl) ?_
   have hrhs:(∃UK,some (a::z::t.set k' lost)=some UK/\(UK[0]? =some l\/UK[1]? =some l))↔(l=a\/l=z):=by
    constructor
    ·intro UM;refine aH UM λ UK h1 h2=>?_;clear UM;have UW:=sI h1;clear h1;subst UW
     exact h2.elim (λ h=> .inl (bq h).symm) (λ h=> .inr (bq h).symm)
    ·clear V8 hw;rintro (rfl | rfl)
     ·exact bY _ rfl (.inl rfl)
     ·exact bY _ rfl (.inr rfl)
   refine gk hrhs ?_
   by_cases h:l=z
   ·exact ah (if_pos h) ⟨λ V=> .inr h,λ V=>by simp⟩
   ·refine ah (if_neg h) ?_
    by_cases h' :l=lost
    ·refine ah (if_pos h') ⟨λ q=>absurd q hip,λ q=>?_⟩
     rcases q with q | q
     ·have:=V8.ne (i:=0) (j:=1) (x:=a) (y:=lost) rfl rfl (by decide)
      exact absurd (dt q (ah h' rfl):a.natAbs=lost.natAbs) this
     ·exact absurd q h
    ·refine ah (if_neg h') (dt (old l h') (gk (W.w3 l j) (ah hr ?_)))
     constructor
     ·clear hr;intro UV;refine aH UV λ UK h1 h2=>?_;clear UV;have U8:=sI h1;clear h1;subst U8
      exact ((hw l).mp h2).elim .inl (λ q=>absurd q h')
     ·rintro (q | q)
      ·exact bY _ rfl ((hw l).mpr (.inl q))
      ·exact absurd q h
  ·refine ah (if_neg hj) ?_
   by_cases h:l=z
   ·refine ah (if_pos h) (gk az (gk aq (dt (old z hne2) (ah h ?_))));rewrite [<-W.w3 z j]
    exact ⟨λ q=>q.elim id λ q=>absurd q hj,.inl⟩
   ·refine ah (if_neg h) ?_
    by_cases h' :l=lost
    ·refine ah (if_pos h') (ah h' ?_);rewrite [<-W.w3 lost j];exact ah oldL (gk az (gk az (gk aM ⟨λ q=>q.elim .inl λ q=> .inr (.inr q),λ q=>q.elim .inl λ q=>q.elim (λ q=>absurd q hj) .inr⟩)))
    ·exact ah (if_neg h') (dt (old l h') (W.w3 l j))
end
section
noncomputable def iI(w:Nat->Bool)(l:Int):Bool:=w l.natAbs==decide (l>0)
theorem um{w:Nat->Bool}(h0:l≠0):iI w (-l)=!iI w l:=by
 unfold iI
 refine ah (b9 ..) ?_
 by_cases h:l>0
 ·have:¬(-l>0):=jE.mpr (fR (zv h))
  simp only [h,this,decide_true,decide_false];cases w l.natAbs<;>rfl
 ·have:-l>0:=Int.neg_pos_of_neg (jV.mpr ⟨jE.mp h,h0⟩)
  simp only [h,this,decide_true,decide_false];cases w l.natAbs<;>rfl
structure xl(W:(Nat->Bool)->Prop)(S:SS):Prop where
 c1:∀r∈S.rows,∀w,W w->∃x∈r,iI w x=true
 c2:∀(i:Nat) (l:Int),S.row[i]? =some l->fD S.begins i=0->∀w,W w->iI w l=true
 c4:∀w,(∀r∈S.rows,∃x∈r,iI w x=true)->(∀(i:Nat) (l:Int),S.row[i]? =some l->fD S.begins i=0->iI w l=true)->W w
structure xE(W:(Nat->Bool)->Prop)(as:List Int)(S:SS):Prop where
 d1:∀(k:Nat) (a:Int) (b:Nat),as[k]? =some a->S.begins[k]? =some b->a∈S.row.take ((S.begins[k+1]?).getD S.row.length)
 d2:∀(i:Nat) (l:Int),S.row[i]? =some l->fD S.begins i<=as.length->∀w,W w->(∀a∈as,iI w a=true)->iI w l=true
structure Cr(N:Nat)(W:(Nat->Bool)->Prop)(as:List Int)(S:SS):Prop where
 trl:nR N S
 snd:xl W S
 asm:xE W as S
noncomputable def pW(S S' :SS):Prop:=S'.rows.length=S.rows.length/\∀(c:Nat) (r:List Int),S.rows[c]? =some r->∃r',S'.rows[c]? =some r' /\r'.Perm r
theorem pW.mem(h:pW S S')(hr:r' ∈S'.rows):∃r∈S.rows,r'.Perm r:=by
 refine aS (aL.mp hr) λ c hc=>?_
 have hl:=(al.mp hc).1
 replace hl:=h.1▸hl
 (try clear hr);refine aH (h.2 c _ (aB hl)) λ Xr h1 h2=>?_
 replace h1:=hc▸h1;clear hc;have Uv:=sI h1;clear h1;subst Uv
 exact bY _ (hO hl) h2
theorem pW.mem'(h:pW S S')(hr:r∈S.rows):∃r' ∈S'.rows,r'.Perm r:=aS (aL.mp hr) λ c hc=>(aH (h.2 c r hc) λ r' h1 h2=>(bY r' (am h1) h2))
theorem pW.one(hr:S.rows[i]? =some r)(e:S'.rows=S.rows.set i r')(hp:r'.Perm r):pW S S' :=by
 refine ⟨ah e (ae cJ rfl),λ c q hq=>(ah e ?_)⟩;rewrite [gG hr]
 by_cases h:c=i
 ·(try clear e);subst h;replace hq:=hr▸hq;(try clear hr);have Uy:=sI hq;clear hq;subst Uy;exact bY r' (if_pos rfl) hp
 ·exact bY q (ae (if_neg h) hq) (.refl _)
theorem Cr.turn{W:(Nat->Bool)->Prop}(C:Cr N W as S)(e1:S'.known=S.known)(e2:S'.heights=S.heights)(e3:S'.causes=S.causes)(e4:S'.row=S.row)(e5:S'.begins=S.begins)(h:pW S S'):Cr N W as S' :=by
 refine ⟨C.trl.turn e1 e2 e3 e4 e5 λ c r hc=>?_,⟨λ r hr w hw=>?_,ah e4 (ah e5 C.snd.c2),λ w h1 h2=>?_⟩,⟨ah e4 (ah e5 C.asm.d1),ah e4 (ah e5 C.asm.d2)⟩⟩
 ·exact aH (h.2 c r hc) λ r' h1 h2=>(bY r' h1 (λ x=>h2.mem_iff))
 ·exact aH (h.mem hr) λ Xr h1 h2=>(aH (C.snd.c1 Xr h1 w hw) λ x hx hs=>(bY x (h2.mem_iff.mpr hx) hs))
 ·exact C.snd.c4 w (λ r hr=>(aH (h.mem' hr) λ r' h3 h4=>(aH (h1 r' h3) λ x hx hs=>(bY x (h4.mem_iff.mp hx) hs)))) (by replace h2:=e5▸e4▸h2;exact h2)
theorem Cr.force{W:(Nat->Bool)->Prop}(C:Cr N W as S)(hs:says S l=none)(hv:1<=l.natAbs/\l.natAbs<=N)(hr:S.rows[c]? =some r)(hl:l∈r)(hx:∀x∈r,x≠l->-x∈S.row)
  (hb:∀b∈S.begins,b<S.row.length):Cr N W as (ln S l (some c)):=by
 have T:=C.trl.let_ (c:=some c) hs hv (λ k hk=>by have UB:=sI hk;clear hk;subst UB;exact fV r hr hl hx) (λ h=>absurd (hb _ h) (cC _)) (λ V V=>⟨c,rfl⟩)
 have hrow:∀(i:Nat) (x:Int),(S.row++[l])[i]? =some x->S.row[i]? =some x\/(i=S.row.length/\x=l):=λ i x hx=>by
  rcases bV i S.row.length with h | h
  ·replace hx:=cK h▸hx;exact .inl hx
  ·replace hx:=c8 h▸hx
   have:i-S.row.length=0:=by
    rcases d4 (i-S.row.length) with h | h
    ·exact h
    ·rewrite [bD (by simp;exact bB h)] at hx;exact (bH hx).elim
   replace hx:=this▸hx
   exact .inr ⟨Od h this,(bq hx).symm⟩
 have hlast:fD S.begins S.row.length=S.begins.length:=nF C.trl.be
 have hforce:∀w,W w->(∀x∈r,x≠l->iI w (-x)=true)->iI w l=true:=λ w hw hq=>by
  refine aH (C.snd.c1 r (am hr) w hw) λ x Wc hxs=>?_
  by_cases e:x=l
  ·exact dt e hxs
  ·have h0:x≠0:=λ q=>by
    have:=(C.trl.var _ (hx x Wc e)).1
    replace this:=q▸this;simp at this
   have:=hq x Wc e
   replace this:=hxs▸um h0▸this;exact (iP this).elim
 refine ⟨T,⟨C.snd.c1,λ i x hi h0 w hw=>?_,λ w h1 h2=>C.snd.c4 w h1 λ i x hi h0=>h2 i x ?_ h0⟩,⟨λ k a b ha UU =>?_,λ i x hi Vh w hw hA=>?_⟩⟩
 ·clear T hl hs hv;rcases hrow i x hi with h | ⟨rfl,rfl⟩
  ·exact C.snd.c2 i x h h0 w hw
  ·refine hforce w hw λ y hy hne=>(aS (aL.mp (hx y hy hne)) λ j hj=>(C.snd.c2 j _ hj ?_ w hw))
   have h0' :fD S.begins S.row.length=0:=h0
   have:=pq (bs:=S.begins) (aG (al.mp hj).1)
   exact a_ (xd h0' this) (ac (a0 _) (a0 _))
 ·exact ((ae (cK (al.mp hi).1) hi):(S.row++[l])[i]? =some x)
 ·have:=C.asm.d1 k a b ha UU
  refine (?_:a∈(S.row++[l]).take ((S.begins[k+1]?).getD (S.row++[l]).length))
  cases e:S.begins[k+1]? with
  | none=>
   replace this:=e▸this
   exact ((ah bn (av _ (cH _ _ this))):a∈(S.row++[l]).take (S.row++[l]).length)
  | some b' =>
   replace this:=e▸this
   exact ((ah (dP (aG (hb b' (am e)))) this):a∈(S.row++[l]).take b')
 ·clear T hl hs hv;rcases hrow i x hi with h | ⟨rfl,rfl⟩
  ·exact C.asm.d2 i x h Vh w hw hA
  ·refine hforce w hw λ y hy hne=>(aS (aL.mp (hx y hy hne)) λ j hj=>(C.asm.d2 j _ hj ?_ w hw hA))
   have h0' :fD S.begins S.row.length<=as.length:=Vh
   have:=pq (bs:=S.begins) (aG (al.mp hj).1)
   exact ac this h0'
theorem rN:∀{j a k:Nat},lY S r a j=some k->a<=k/\k<a+j/\says S (r.getD k 0)≠some false
 | 0,a,k,h=>(bH h).elim
 | j+1,a,k,h=>by
  replace h:=(zV ..)▸h
  split at h
  ·rename_i hs;have UC:=sI h;clear h;subst UC;exact dn (aw _) (bO (ax _ _)) hs
  ·exact ck (rN h) λ h1 h2 h3=>(dn (ac (ax _ _) h1) (ai h2 (aC (bW _ _ _))) h3)
theorem rO:∀{j a:Nat},lY S r a j=none->∀k,a<=k->k<a+j->says S (r.getD k 0)=some false
 | 0,a,_,k,h1,h2=>absurd h2 (eG.mpr h1)
 | j+1,a,h,k,h1,h2=>by
  replace h:=(zV ..)▸h
  split at h
  ·exact (hV h).elim
  ·rename_i hs
   rcases bV a k with q | q
   ·exact rO h k (bB q) (yc (bW _ _ _) h2)
   ·have:k=a:=a_ q h1
    clear h h1 h2 q;subst this
    exact xL.mp hs
theorem wu(hr:S.rows[i]? =some r):
  ((d3 S i lost).2=true/\∃k z,2<=k/\(dg r lost)[k]? =some z/\says S z≠some false/\says S ((dg r lost).getD 0 0)≠some true/\(d3 S i lost).1=gq (S.uRows (S.rows.set i (((dg r lost).set 1 z).set k lost))) z i)\/
  ((d3 S i lost).2=false/\(d3 S i lost).1=(S.uRows (S.rows.set i (dg r lost)))/\(says S ((dg r lost).getD 0 0)=some true\/∀k,2<=k->k<r.length->says S ((dg r lost).getD k 0)=some false)):=by
 have hd:S.rows.getD i []=r:=j8 hr
 have Xb:=oG r lost
 unfold d3
 refine ah hd ?_
 dsimp only
 refine eC (λ h=>?_) λ h=>?_
 ·exact .inr ⟨rfl,rfl,.inl h⟩
 ·cases hk:lY S (dg r lost) 2 ((dg r lost).length-2) with
  | none=>exact .inr ⟨rfl,rfl,.inr λ k h1 h2=>rO hk k h1 (Nq h2 Xb)⟩
  | some k=>
   refine ck (rN hk) λ h1 h2 h3=>?_
   have hkl:k<(dg r lost).length:=Np h1 h2
   have hz:=j7 (dg r lost) k hkl
   exact .inl ⟨rfl,k,_,h1,hz,h3,h,rfl⟩
end
section
noncomputable def qa(P Rw r:List Int):Prop:=∀x y,r[0]? =some x->r[1]? =some y->(-x∈P->y∈Rw)/\(-y∈P->x∈Rw)
theorem fN:qa P Rw (a::z::t)↔(-a∈P->z∈Rw)/\(-z∈P->a∈Rw):=by
 refine ⟨λ h=>h a z rfl rfl,λ h x y hx hy=>?_⟩
 have Uv:=sI hx;clear hx;subst Uv;have Uy:=sI hy;clear hy;subst Uy;exact h
theorem qr(h2:2<=r.length)(h:qa P Rw r):qa P Rw (dg r lost):=by
 match r,h2 with
 | x::y::t,_=>
  refine ah tY (eC (λ e=>?_) λ V=>?_)
  ·subst e
   exact aP (fN.mp h) λ q1 q2=>(fN.mpr ⟨q2,q1⟩)
  ·exact h
theorem qa.mono(h:qa P Rw r)(hp:∀x∈P',x∈P)(hr:∀x∈Rw,x∈Rw'):qa P' Rw' r:=λ x y hx hy=>aP (h x y hx hy) λ q1 q2=>⟨λ m=>hr _ (q1 (hp _ m)),λ m=>hr _ (q2 (hp _ m))⟩
structure re(S0 S:SS):Prop where
 begins:S.begins=S0.begins
 heats:S.heats=S0.heats
 lock:S.lock=S0.lock
 limit:S.limit=S0.limit
 clashes:S.clashes=S0.clashes
 refuted:S.refuted=S0.refuted
 log:S.log=S0.log
 blamed:S.blamed=S0.blamed
 rows:S.rows.length=S0.rows.length
 row:∃t,S.row=S0.row++t
theorem re.refl(S:SS):re S S:=⟨rfl,rfl,rfl,rfl,rfl,rfl,rfl,rfl,rfl,[],by simp⟩
structure JS(N:Nat)(W:(Nat->Bool)->Prop)(as:List Int)(S0 S:SS):Prop where
 cr:Cr N W as S
 wt:mu N S 0 []
 wi:∀(i:Nat) (r:List Int),S.rows[i]? =some r->qa (S.row.take S.seen) S.row r
 wb:∀b∈S.begins,∀(i:Nat) (r:List Int),S.rows[i]? =some r->qa (S.row.take b) (S.row.take b) r
 bs:∀b∈S.begins,b<=S.seen
 sl:S.seen<=S.row.length
 kp:re S0 S
structure MS(N:Nat)(W:(Nat->Bool)->Prop)(as:List Int)(S0 S:SS)(lost:Int)(ns:List Nat)(k:Nat):Prop where
 cr:Cr N W as S
 wt:mu N S lost (ns.drop k)
 wi:∀(i:Nat) (r:List Int),S.rows[i]? =some r->qa (S.row.take (if i∈ns.drop k then S.seen-1 else S.seen)) S.row r
 wb:∀b∈S.begins,∀(i:Nat) (r:List Int),S.rows[i]? =some r->qa (S.row.take b) (S.row.take b) r
 bs:∀b∈S.begins,b+1<=S.seen
 s1:1<=S.seen
 sl:S.seen<=S.row.length
 lo:S.row[S.seen-1]? =some (-lost)
 nz:lost≠0
 nl:ns.length<=40000
 kp:re S0 S
structure PS(N:Nat)(W:(Nat->Bool)->Prop)(as:List Int)(S0 S:SS)(i:Nat):Prop where
 cr:Cr N W as S
 wt:mu N S 0 []
 wb:∀b∈S.begins,∀(i:Nat) (r:List Int),S.rows[i]? =some r->qa (S.row.take b) (S.row.take b) r
 kp:re S0 S
 cl:∃r,S.rows[i]? =some r/\(∀x∈r,-x∈S.row)/\∃(j:Nat) (l:Int),S.row[j]? =some l/\-l∈r/\fD S.begins j=S.begins.length
theorem sY{l:List Nat}(hn:l.Nodup)(h:∀i∈l,i<n):l.length<=n:=by
 have:=ix n (l.map λ(i:Nat)=>(i:Int)) (by
  unfold gp at hn⊢
  exact gk cE (hn.imp λ h e=>h (by exact_mod_cast e))) λ k hk=>by
   refine aH (aF.mp hk) λ i hi UB=>?_;subst UB
   have:=h i hi;exact bt (cM (bG _) (bG _)) (bQ.mpr this)
 rwa [ag] at this
theorem mu.short(W:mu N S lost p)(l:Int):(wp S lost p l).length<=S.rows.length:=
 sY (W.w2 l) λ i hi=>aH ((W.w3 l i).mp hi) λ r hr V=>((al.mp hr).1)
theorem mu.wz(W:mu N S lost p)(h:S.rows.length<=k):Wz S k:=λ l=>by
 have:=W.short l
 unfold wp at this
 replace this:=aA▸this
 exact ((ac (ac (ax _ _) this) h):(wl S l).length<=k)
theorem mu.clash(W:mu N S lost p):mu N (si S lost p) 0 []:=by
 have e:∀l,wp (si S lost p) 0 [] l=wp S lost p l:=λ l=>by
  refine ae (jw ..) (((ah (eV ..) ?_):(lk (ins S.watch lost _) l).getD []=_))
  unfold wp
  split at⊢
  ·rename_i h;(try clear W);subst h;rfl
  ·exact ah (cw ..) rfl
 exact ⟨W.w1,λ l=>ah (e ..) (W.w2 l),λ l i=>ah (e ..) (W.w3 l i)⟩
theorem A8{S:SS}(h1:1<=S.seen)(hl:S.row[S.seen-1]? =some (-lost))(h:x∈S.row.take S.seen):x∈S.row.take (S.seen-1)\/x=-lost:=by
 have:S.row.take S.seen=S.row.take (S.seen-1)++[-lost]:=by
  conv=>lhs;rw [show S.seen=S.seen-1+1 by exact dc (gw h1),bw,hl]
  rfl
 replace h:=this▸h
 rcases az.mp h with h | h
 ·exact .inl h
 ·exact .inr (aq.mp h)
theorem Bg{N:Nat}{W:(Nat->Bool)->Prop}(hN:N<=900)(hR:S0.rows.length<=40000):sH (JS N W as S0) (MS N W as S0) (PS N W as S0) where
 leave S lost ns h:=by
  obtain ⟨cr,wt,wi,wb,bs,s1,sl,lo,nz,nl,kp⟩:=h
  rw [List.drop_length] at wt wi
  exact ⟨cr,wt.any 0,λ i r hr=>by have:=wi i r hr;rewrite [if_neg (by simp)] at this;exact this,wb,λ b hb=>by have:=bs b hb;exact ac (ax _ _) this,sl,kp⟩
 enter S l h hF hl:=by
  obtain ⟨cr,wt,wi,wb,bs,sl,kp⟩:=h
  have hw:=wt.wz (k:=40000) (ah kp.rows hR)
  have hlt:=(al.mp hl).1
  have hlv:=cr.trl.var l (am hl)
  refine ⟨hw _,⟨cr.turn rfl rfl rfl rfl rfl ⟨rfl,λ c r h=>⟨r,h,.refl _⟩⟩,wt.open_,λ i r hr=>?_,wb,λ b hb=>bJ (bs b hb),bJ (a0 _),hlt,?_,SP hlv,hw _,⟨kp.begins,kp.heats,kp.lock,kp.limit,kp.clashes,kp.refuted,kp.log,kp.blamed,kp.rows,kp.row⟩⟩⟩
  ·have hr' :S.rows[i]? =some r:=hr
   refine ((ah List.drop_zero ?_):qa (S.row.take (if i∈(wl S (-l)).drop 0 then S.seen+1-1 else S.seen+1)) S.row r)
   by_cases h:i∈wl S (-l)
   ·exact ah (if_pos h) (wi i r hr')
   ·refine ah (if_neg h) (λ x y hx hy=>(aP (wi i r hr' x y hx hy) λ q1 q2=>?_))
    have hno:∀u,(r[0]? =some u\/r[1]? =some u)->-u∈S.row.take (S.seen+1)->-u∈S.row.take S.seen:=λ u hu hm=>by
     replace hm:=hl▸bw▸hm
     rcases az.mp hm with hm | hm
     ·exact hm
     ·exfalso
      have e:-u=l:=by simpa using hm
      have:u=-l:=No e
      exact h (dt (jw S 0 (-l)) ((wt.w3 (-l) i).mpr ⟨r,hr',dt this hu⟩))
    exact ⟨λ m=>q1 (hno x (.inl hx) m),λ m=>q2 (hno y (.inr hy) m)⟩
  ·exact ((ah (qE ..) (ah (eh ..) hl)):S.row[S.seen+1-1]? =some (- -l))
 turn S lost ns k i h hF hi:=by
  obtain ⟨cr,wt,wi,wb,bs,s1,sl,lo,nz,nl,kp⟩:=h
  have hdk:ns.drop k=i::ns.drop (k+1):=by
   obtain ⟨h1,h2⟩:=al.mp hi
   exact ae (vE h1) (ah h2 rfl)
  rw [hdk] at wt wi
  refine aH ((wt.w3 lost i).mp (by unfold wp;exact ah (if_pos rfl) (ak _ (.head _)))) λ r hr hrw=>?_
  have hg:=wt.w1 i r hr
  refine gJ (oF hg hrw) λ a t Xn Yv hfw=>?_
  have V8 :=hg.perm Yv
  have hNr:r.length<=N:=by
   have hn:=hg.2.1
   have:=ix N (r.map λ l=>((l.natAbs:Int)-1)) (by
    unfold gp at hn⊢
    rw [cE] at hn⊢
    exact hn.imp λ h e=>h (Er e)) λ q hq=>by
     refine aH (aF.mp hq) λ l hl UC=>?_;subst UC
     have:=hg.2.2 l hl;exact Ep this
   rwa [ag] at this
  have hrow:=cr.trl.len
  have hal:a.natAbs≠lost.natAbs:=V8.ne (i:=0) (j:=1) rfl rfl (by decide)
  have Yi:=V8.2.2 a (.head _)
  have hlv:=V8.2.2 lost (.tail _ (.head _))
  have hlm:-lost∈S.row:=am lo
  have hnd:i∉ns.drop (k+1):=by
   have:=wt.w2 lost
   unfold wp at this
   replace this:=if_pos rfl▸this;rewrite [cU] at this
   exact (aY.mp this.2.1).1
  have hw1:=wt.wz (k:=40000) (ah kp.rows hR)
  --the old watch invariant,the row in front
  have hwi:=qr (lost:=lost) hg.1 (wi i r hr)
  rewrite [if_pos (.head _)] at hwi;replace hwi:=Xn▸hwi
  clear hfw hrw;refine aP (fN.mp hwi) λ YD V=>?_
  have hwb:∀b∈S.begins,(-a∈S.row.take b->lost∈S.row.take b):=λ b hb=>by
   have:=qr (lost:=lost) hg.1 (wb b hb i r hr)
   replace this:=Xn▸this
   exact (fN.mp this).1
  have hlf:lost∉S.row:=λ q=>cr.trl.tr.not_both nz q hlm
  have hna:-a∉S.row.take S.seen:=λ q=>by
   rcases A8 s1 lo q with q | q
   ·exact hlf (YD q)
   ·have e:a=lost:=PG.mp q
    exact hal (ah e rfl)
  have ha0:a≠0:=λ q=>by replace Yi:=q▸Yi;simp at Yi
  have hmemk:∀j,j≠i->(j∈i::ns.drop (k+1)↔j∈ns.drop (k+1)):=λ j hj=>gk aM ⟨λ h=>h.elim (λ e=>absurd e hj) id,.inr⟩
  have hlow:-1000<=lost/\lost<=1000:=Je hlv hN
  refine Kz r hr hg.1 (ac hNr (ac hN (af _ _))) (λ x hx=>?_) hw1 nl (Nn hN hrow) hlow.1 hlow.2 ?_
  ·have:=hg.2.2 x hx;exact Je this hN
  have hkeep:∀S',S'.begins=S.begins->S'.heats=S.heats->S'.lock=S.lock->S'.limit=S.limit->S'.clashes=S.clashes->S'.refuted=S.refuted->S'.log=S.log->S'.blamed=S.blamed->S'.rows.length=S.rows.length->(∃t,S'.row=S.row++t)->re S0 S' :=λ S' a1 a2 a3 a4 a5 a6 a7 a8 a9 UF=>by
   refine aS UF λ u hu=>?_;clear UF
   exact aS kp.row λ v hv=>⟨a1.trans kp.begins,a2.trans kp.heats,a3.trans kp.lock,a4.trans kp.limit,a5.trans kp.clashes,a6.trans kp.refuted,a7.trans kp.log,a8.trans kp.blamed,a9.trans kp.rows,v++u,ae hu (ah hv (ae (cN ..) rfl))⟩
  clear hal hlow hlv hwi YD;rcases wu (lost:=lost) hr with ⟨hm,k',z,hk',hz,XT,Zj,hS⟩ | ⟨hm,hS,hall⟩
  ·--moved
   refine aP (wt.move hr hk' hz) λ Vy hpm=>?_
   replace Vy :=dc hS▸Vy
   have hrows:(d3 S i lost).1.rows=S.rows.set i (((dg r lost).set 1 z).set k' lost):=ah hS rfl
   have hr'' :((dg r lost).set 1 z).set k' lost=a::z::t.set (k' -2) lost:=by
    refine ah Xn ?_
    clear hS hpm hrows hz;obtain ⟨q,rfl⟩:∃q,k' =q+2:=⟨k' -2,dc (gw hk')⟩
    rfl
   have hzn:-z∉S.row:=λ q=>by
    have hzm:z∈dg r lost:=am hz
    have Zr:=V8.2.2 z (dt Xn hzm)
    have hz0:z≠0:=λ e=>by replace Zr:=e▸Zr;simp at Zr
    exact XT ((cr.trl.tr.mem_false hz0).mpr q)
   refine dn (Vy.wz (ah hrows (ah cJ (ah kp.rows (ac hR (af _ _)))))) (λ V=>?_) (λ h=>(by replace h:=hm▸h;exact (v8 h).elim))
   have e1:(d3 S i lost).1.row=S.row:=ah hS rfl
   have e2:(d3 S i lost).1.begins=S.begins:=ah hS rfl
   have e3:(d3 S i lost).1.seen=S.seen:=ah hS rfl
   refine ⟨cr.turn (ah hS rfl) (ah hS rfl) (ah hS rfl) e1 e2 (pW.one hr hrows hpm),Vy,λ j UK hj=>?_,λ b hb j UK hj=>?_,ah e2 (ah e3 bs),ah e3 s1,ah e3 (ah e1 sl),ah e1 (ah e3 lo),nz,nl,
    hkeep _ e2 (ah hS rfl) (ah hS rfl) (ah hS rfl) (ah hS rfl) (ah hS rfl) (ah hS rfl) (ah hS rfl) (ah hrows (ae cJ rfl)) ⟨[],by refine ae e1 ?_;simp⟩⟩
   ·replace hj:=hrows▸hj;rewrite [gG hr] at hj
    refine ah e1 (ah e3 ?_)
    by_cases e:j=i
    ·replace hj:=if_pos e▸hj;have UP:=sI hj;clear hj;subst UP
     exact ah e (ah (if_neg hnd) (ah hr'' (fN.mpr ⟨λ q=>absurd q hna,λ q=>absurd (cH _ _ q) hzn⟩)))
    ·replace hj:=if_neg e▸hj
     have:=wi j UK hj
     simp only [hmemk j e] at this
     exact this
   ·replace hj:=hrows▸hj;rewrite [gG hr] at hj
    replace hb:=e2▸hb
    refine ah e1 ?_
    by_cases e:j=i
    ·replace hj:=if_pos e▸hj;have UQ:=sI hj;clear hj;subst UQ
     exact ah hr'' (fN.mpr ⟨λ q=>absurd (cH _ _ (hwb b hb q)) hlf,λ q=>absurd (cH _ _ q) hzn⟩)
    ·replace hj:=if_neg e▸hj;exact wb b hb j UK hj
  ·--not moved
   have Vy :=wt.stay hr
   rw [Xn] at hS hall Vy
   have hgd:(dg r lost).getD 0 0=a:=ah Xn rfl
   refine ah hgd ?_
   have hall' :says S a=some true\/∀x∈t,says S x=some false:=hall.imp id λ q x hx=>by
    refine aS (aL.mp hx) λ j hj=>?_
    have hjl:=(al.mp hj).1
    have:=q (j+2) (af _ _) (by refine dt Yv.length_eq ?_;simp;exact hjl)
    have e:(a::lost::t).getD (j+2) 0=x:=j8 (ae fW (ae fW hj))
    replace this:=e▸this;exact this
   have hmw:Wz (d3 S i lost).1 40001:=λ l=>ah hS (ac (hw1 l) (af _ _))
   refine dn hmw (λ h=>(by replace h:=hm▸h;exact (iP h).elim)) (λ V=>(ah hS ?_))
   clear hS hall hgd hlf hm hmw hwb wt;generalize hS2:gq (S.uRows (S.rows.set i (a::lost::t))) lost i=S2 at Vy ⊢
   have hrows:S2.rows=S.rows.set i (a::lost::t):=dt hS2 rfl
   have e1:S2.row=S.row:=dt hS2 rfl
   have e2:S2.begins=S.begins:=dt hS2 rfl
   have e3:S2.seen=S.seen:=dt hS2 rfl
   have cr2:Cr N W as S2:=cr.turn (dt hS2 rfl) (dt hS2 rfl) (dt hS2 rfl) e1 e2 (pW.one hr hrows Yv)
   have kp2:re S0 S2:=hkeep _ e2 (dt hS2 rfl) (dt hS2 rfl) (dt hS2 rfl) (dt hS2 rfl) (dt hS2 rfl) (dt hS2 rfl) (dt hS2 rfl) (ah hrows (ae cJ rfl)) ⟨[],by refine ae e1 ?_;simp⟩
   have sy2:∀x,says S2 x=says S x:=λ x=>dt hS2 rfl
   have hri:S2.rows[i]? =some (a::lost::t):=by refine ah hrows ?_;rewrite [gG hr];exact ae (if_pos rfl) rfl
   have wb2:∀b∈S2.begins,∀(j:Nat) (UK:List Int),S2.rows[j]? =some UK->qa (S2.row.take b) (S2.row.take b) UK:=λ b hb j UK hj=>by
    replace hj:=hrows▸hj;rewrite [gG hr] at hj
    replace hb:=e2▸hb
    refine ah e1 ?_
    by_cases e:j=i
    ·replace hj:=if_pos e▸hj;have UT:=sI hj;clear hj;subst UT
     have:=qr (lost:=lost) hg.1 (wb b hb i r hr)
     replace this:=Xn▸this;exact this
    ·replace hj:=if_neg e▸hj;exact wb b hb j UK hj
   have wi2:a∈S.row->∀(j:Nat) (UK:List Int),S2.rows[j]? =some UK->qa (S.row.take (if j∈ns.drop (k+1) then S.seen-1 else S.seen)) S.row UK:=λ ham j UK hj=>by
    replace hj:=hrows▸hj;rewrite [gG hr] at hj
    by_cases e:j=i
    ·replace hj:=if_pos e▸hj;have U9:=sI hj;clear hj;subst U9
     exact ah e (ah (if_neg hnd) (fN.mpr ⟨λ q=>absurd q hna,λ V=>ham⟩))
    ·replace hj:=if_neg e▸hj
     have:=wi j UK hj
     simp only [hmemk j e] at this
     exact this
   refine dn (λ hs=>?_) (λ hs=>?_) (λ hs=>?_)
   ·--a clash
    have hf:=hall'.resolve_left (by refine ah hs ?_;simp)
    have haf:-a∈S.row:=(cr.trl.tr.mem_false ha0).mp hs
    refine ⟨cr2.turn rfl rfl rfl rfl rfl ⟨rfl,λ c r h=>⟨r,h,.refl _⟩⟩,Vy.clash,wb2,⟨kp2.begins,kp2.heats,kp2.lock,kp2.limit,kp2.clashes,kp2.refuted,kp2.log,kp2.blamed,kp2.rows,kp2.row⟩,a::lost::t,hri,λ x hx=>?_,S.seen-1,-lost,?_,?_,?_⟩
    ·refine ((ah e1 ?_):-x∈S2.row)
     clear hS2 ha0 hall' Yi Xn Yv hna hri hrows hs Vy lo nz wi2;rcases aM.mp hx with rfl | hx
     ·exact haf
     ·rcases aM.mp hx with rfl | hx
      ·exact hlm
      ·have Xi:=V8.2.2 x (.tail _ (.tail _ hx))
       exact (cr.trl.tr.mem_false (λ e=>by replace Xi:=e▸Xi;simp at Xi)).mp (hf x hx)
    ·change S2.row[_]? =_;exact ah e1 lo
    ·exact ah (eh ..) (.tail _ (.head _))
    ·exact ((ah e2 (nF λ b hb=>by have:=bs b hb;exact jS this)):fD S2.begins (S.seen-1)=S2.begins.length)
   ·--the first literal is true
    have ham:a∈S.row:=(cr.trl.tr.mem_true ha0).mp hs
    exact ⟨cr2,Vy,ah e1 (ah e3 (wi2 ham)),wb2,ah e2 (ah e3 bs),ah e3 s1,ah e3 (ah e1 sl),ah e1 (ah e3 lo),nz,nl,kp2⟩
   ·--it is forced
    have hf:=hall'.resolve_left (by refine ah hs ?_;simp)
    have hforce:Cr N W as (ln S2 a (some i)):=cr2.force (ae (sy2 ..) hs) Yi hri (.head _) (λ x hx hne=>by
     refine ah e1 ?_
     clear hS2 ha0 hall' Yi Xn Yv hna hri hrows hs Vy lo nz wi2;rcases aM.mp hx with rfl | hx
     ·exact absurd rfl hne
     ·rcases aM.mp hx with rfl | hx
      ·exact hlm
      ·have Xi:=V8.2.2 x (.tail _ (.tail _ hx))
       exact (cr.trl.tr.mem_false (λ e=>by replace Xi:=e▸Xi;simp at Xi)).mp (hf x hx)) (ah e1 (ah e2 (λ b hb=>by have:=bs b hb;exact ai (ai (aK _) this) sl)))
    have hrow' :(ln S2 a (some i)).row=S.row++[a]:=((ah e1 rfl):S2.row++[a]=_)
    have htk:∀q,q<=S.row.length->(S.row++[a]).take q=S.row.take q:=λ q hq=>dP hq
    refine ⟨hforce,Vy.same rfl rfl,λ j UK hj=>?_,λ b hb j UK hj=>?_,((ah e2 (ah e3 bs)):∀b∈S2.begins,b+1<=S2.seen),((ah e3 s1):1<=S2.seen),?_,?_,nz,nl,?_⟩
    ·have hj' :S2.rows[j]? =some UK:=hj
     refine ah hrow' (((ah e3 (ah (htk _ (by refine eC (λ V=>?_) λ V=>?_<;>lia)) ?_)):qa ((S.row++[a]).take (if j∈ns.drop (k+1) then S2.seen-1 else S2.seen)) _ _))
     replace hj' :=hrows▸hj';rewrite [gG hr] at hj'
     by_cases e:j=i
     ·replace hj' :=if_pos e▸hj';(try clear hj);have UM:=sI hj';clear hj';subst UM
      exact ah e (ah (if_neg hnd) (fN.mpr ⟨λ q=>absurd q hna,λ V=>by simp⟩))
     ·replace hj' :=if_neg e▸hj'
      have:=wi j UK hj'
      simp only [hmemk j e] at this
      exact this.mono (λ x h=>h) λ x h=>av _ h
    ·have UU :b∈S2.begins:=hb
     have:=wb2 b UU j UK hj
     replace UU :=e2▸UU
     refine ah hrow' (ah (htk b (by have:=bs b UU;exact ac (aG (aK _)) (ac this sl))) ?_)
     replace this:=e1▸this;exact this
    ·exact ((ah hrow' (ah e3 (ah aA (ac sl (ax _ _))))):S2.seen<=(ln S2 a (some i)).row.length)
    ·exact ((ah hrow' (ah e3 (ae (cK (al.mp lo).1) lo))):(ln S2 a (some i)).row[S2.seen-1]? =_)
    ·exact aS kp2.row λ v hv=>⟨kp2.begins,kp2.heats,kp2.lock,kp2.limit,kp2.clashes,kp2.refuted,kp2.log,kp2.blamed,kp2.rows,v++[a],((ah hv (ae (cN ..) rfl)):S2.row++[a]=_)⟩
end
section
noncomputable def q9(S:SS)(mk:List Int)(j:Nat):Bool:=match S.row[j]? with
 | some l=>decide ((l.natAbs:Int)∈mk)&&decide (fD S.begins j=S.begins.length)
 | none=>false
noncomputable def cnt(S:SS)(mk:List Int)(sp:Nat):Nat:=((bk sp).filter (q9 S mk)).length
theorem iM:q9 S mk j=true↔∃l,S.row[j]? =some l/\(l.natAbs:Int)∈mk/\fD S.begins j=S.begins.length:=by
 unfold q9
 cases e:S.row[j]? with
 | none=>simp
 | some l=>simp
theorem se(S:SS)(mk:List Int)(sp:Nat):cnt S mk (sp+1)=cnt S mk sp+if q9 S mk sp=true then 1 else 0:=by
 unfold cnt
 refine ah iG (ah (dZ ..) (ae aA (ah cO ?_)))
 split at⊢<;>simp
theorem HA(hj:j<sp)(h:q9 S mk j=true):0<cnt S mk sp:=mC (bx.mpr ⟨bK.mpr hj,h⟩)
theorem wR(h:0<cnt S mk sp):∃j,j<sp/\q9 S mk j=true:=aS (List.exists_mem_of_length_pos h) λ j hj=>(aP (bx.mp hj) λ h1 h2=>(bY j (bK.mp h1) h2))
theorem HB(h:cnt S mk sp=1)(hi:i<sp)(hj:j<sp)(oi:q9 S mk i=true)(oj:q9 S mk j=true):i=j:=by
 refine aS (mD.mp h) λ a ha=>?_
 have h1:i∈(bk sp).filter (q9 S mk):=bx.mpr ⟨bK.mpr hi,oi⟩
 have h2:j∈(bk sp).filter (q9 S mk):=bx.mpr ⟨bK.mpr hj,oj⟩
 rw [ha,aq] at h1 h2
 exact a_ (ac (aC h1) (xb h2 (aw _))) (ac (aC h2) (xb h1 (aw _)))
theorem wS(T:Tr S)(hj:S.row[j]? =some l)(hn:(l.natAbs:Int)∉mk):∀sp,cnt S (mk++[(l.natAbs:Int)]) sp=cnt S mk sp+if j<sp/\fD S.begins j=S.begins.length then 1 else 0
 | 0=>by simp [cnt]
 | sp+1=>by
  refine ae (se ..) (ah (se ..) (ah (wS T hj hn sp) ?_))
  by_cases e:sp=j
  ·subst e
   have h1:q9 S mk sp=false:=by
    cases q:q9 S mk sp with
    | false=>rfl
    | true=>
     refine cX (iM.mp q) λ l' h1 h2 V=>?_
     replace h1:=hj▸h1;(try clear hj);have Uv:=sI h1;clear h1;subst Uv;exact absurd h2 hn
   have h2:q9 S (mk++[(l.natAbs:Int)]) sp=decide (fD S.begins sp=S.begins.length):=by
    unfold q9;refine ah hj ?_;simp
   refine ah h1 (ah h2 ?_)
   by_cases hl:fD S.begins sp=S.begins.length
   ·simp [hl]
   ·simp [hl]
  ·have h1:q9 S (mk++[(l.natAbs:Int)]) sp=q9 S mk sp:=by
    unfold q9
    cases q:S.row[sp]? with
    | none=>rfl
    | some l' =>
     have hne:(l'.natAbs:Int)≠l.natAbs:=λ h=>e (T.inj q hj (by exact_mod_cast h))
     simp [hne]
   refine ah h1 ?_
   have h2:(j<sp+1/\fD S.begins j=S.begins.length)↔(j<sp/\fD S.begins j=S.begins.length):=⟨λ h=>⟨Nm h e,h.2⟩,λ h=>⟨bz h.1 (aK _),h.2⟩⟩
   simp only [h2]
   exact bW _ _ _
theorem Aw:∀sp,(∀i,j<i->i<sp->q9 S mk i=false)->q9 S mk j=true->j<sp->cnt S mk sp=cnt S mk j+1
 | 0,_,_,h=>absurd (au (a0 _) h) (by decide)
 | sp+1,hn,ho,h=>by
  refine ae (se ..) ?_
  by_cases e:sp=j
  ·clear h hn;subst e;exact ah (if_pos ho) rfl
  ·refine ah (hn sp (Jd h e) (aK _)) (ah (Aw sp (λ i a b=>hn i a (bz b (aK _))) ho (Jd h e)) ?_);simp
theorem tQ(hj:j∈bs)(h:i<j):fD bs i<fD bs j:=by
 unfold fD
 induction bs with
 | nil=>cases hj
 | cons b bs ih=>
  have hm:((bs.filter λ b=>decide (b<=i)).length)<=((bs.filter λ b=>decide (b<=j)).length):=pq (aG h)
  refine ah cO (ah cO ?_)
  rcases aM.mp hj with rfl | hj
  ·have h1:¬j<=i:=Gf.mpr h
   simp [h1];exact bO hm
  ·have:=ih hj
   by_cases h1:b<=i
   ·have h2:b<=j:=aG (au h1 h)
    simp [h1,h2];exact this
   ·by_cases h2:b<=j
    ·simp [h1,h2];exact au hm (aK _)
    ·simp [h1,h2];exact this
structure Mk(S:SS)(sp:Nat)(mk bh:List Int)(o:Nat):Prop where
 k1:mk.Nodup
 k2:∀v∈mk,∃(j:Nat) (l:Int),S.row[j]? =some l/\(l.natAbs:Int)=v/\0<fD S.begins j/\(fD S.begins j<S.begins.length->-l∈bh)
 k3:∀x∈bh,(x.natAbs:Int)∈mk/\∃j:Nat,S.row[j]? =some (-x)/\0<fD S.begins j/\fD S.begins j<S.begins.length
 k4:(bh.map bE).Nodup
 k5:o=cnt S mk sp
theorem wB(T:nR N S):∀(r:List Int) (t:List Int×List Int×Nat),(∀x∈r,x≠Uz->∃j,j<sp/\S.row[j]? =some (-x))->Mk S sp t.1 t.2.1 t.2.2->
  Mk S sp (r.foldl (dC S Uz) t).1 (r.foldl (dC S Uz) t).2.1 (r.foldl (dC S Uz) t).2.2/\(∀v∈t.1,v∈(r.foldl (dC S Uz) t).1)/\(∀v∈t.2.1,v∈(r.foldl (dC S Uz) t).2.1)/\t.2.2<=(r.foldl (dC S Uz) t).2.2/\
  ∀x∈r,x≠Uz->∀j,S.row[j]? =some (-x)->0<fD S.begins j->(x.natAbs:Int)∈(r.foldl (dC S Uz) t).1
 | [],t,_,K=>⟨K,λ V h=>h,λ V h=>h,aw _,λ x hx=>by cases hx⟩
 | x::r,t,hr,K=>by
  obtain ⟨mk,bh,o⟩:=t
  dsimp only at K
  --one step
  have step:Mk S sp (dC S Uz (mk,bh,o) x).1 (dC S Uz (mk,bh,o) x).2.1 (dC S Uz (mk,bh,o) x).2.2/\(∀v∈mk,v∈(dC S Uz (mk,bh,o) x).1)/\(∀v∈bh,v∈(dC S Uz (mk,bh,o) x).2.1)/\o<=(dC S Uz (mk,bh,o) x).2.2/\
    (x≠Uz->∀j,S.row[j]? =some (-x)->0<fD S.begins j->(x.natAbs:Int)∈(dC S Uz (mk,bh,o) x).1):=by
   by_cases hp:x=Uz
   ·have:dC S Uz (mk,bh,o) x=(mk,bh,o):=by unfold dC;exact if_neg λ q=>q.1 hp
    exact ah this (pF K (λ V h=>h) (λ V h=>h) (aw _) (λ h=>absurd hp h))
   refine aH (hr x (.head _) hp) λ j hjs hj=>?_
   have hh:(lk S.heights x.natAbs).getD 0=fD S.begins j:=by
    have:=T.ht j _ hj
    replace this:=(b9 ..)▸this
    exact ah this rfl
   have huniq:∀j',S.row[j']? =some (-x)->j' =j:=λ j' h' =>T.tr.inj h' hj rfl
   by_cases hm:(x.natAbs:Int)∈mk
   ·have:dC S Uz (mk,bh,o) x=(mk,bh,o):=by unfold dC;exact if_neg λ q=>q.2.1 hm
    exact ah this (pF K (λ V h=>h) (λ V h=>h) (aw _) (λ V V V V=>hm))
   by_cases hz:0<fD S.begins j
   ·have hcond:x≠Uz/\(x.natAbs:Int)∉(mk,bh,o).1/\0<(lk S.heights x.natAbs).getD 0:=⟨hp,hm,ah hh hz⟩
    have hcm:=wS T.tr hj (mk:=mk) (ah (b9 ..) hm) sp
    replace hcm:=(b9 ..)▸hcm
    have hn1:(mk++[(x.natAbs:Int)]).Nodup:=cU.mpr ⟨K.k1,by simp,λ a ha b hb=>ah (aq.mp hb) (λ e=>hm (e▸ha))⟩
    by_cases hc:fD S.begins j=S.begins.length
    ·have:dC S Uz (mk,bh,o) x=(mk++[(x.natAbs:Int)],bh,o+1):=by unfold dC;exact ae (if_pos hcond) (ah hh (ae (if_pos hc) rfl))
     refine ah this ?_
     rewrite [if_pos ⟨hjs,hc⟩] at hcm
     refine pF ⟨hn1,λ v hv=>?_,λ y hy=>⟨av _ (K.k3 y hy).1,(K.k3 y hy).2⟩,K.k4,ah hcm (ah K.k5 rfl)⟩ (λ v hv=>av _ hv) (λ v hv=>hv) (gm _) (λ V V V V=>by simp)
     rcases az.mp hv with hv | hv
     ·exact K.k2 v hv
     ·exact ah (aq.mp hv) (pE j (-x) hj (ah (b9 ..) rfl) hz (λ h=>absurd hc (bP h)))
    ·have hlt:fD S.begins j<S.begins.length:=cV (qj _ _) hc
     have:dC S Uz (mk,bh,o) x=(mk++[(x.natAbs:Int)],bh++[x],o):=by unfold dC;exact ae (if_pos hcond) (ah hh (ae (if_neg hc) rfl))
     refine ah this ?_
     rewrite [if_neg λ q=>hc q.2] at hcm
     refine pF ⟨hn1,λ v hv=>?_,λ y hy=>?_,?_,ah hcm (ae (kG ..) K.k5)⟩ (λ v hv=>av _ hv) (λ v hv=>av _ hv) (aw _) (λ V V V V=>by simp)
     ·rcases az.mp hv with hv | hv
      ·exact jo (K.k2 v hv) λ j' l' a b c d=>(pE j' l' a b c (λ h=>av _ (d h)))
      ·exact ah (aq.mp hv) (pE j (-x) hj (ah (b9 ..) rfl) hz (λ V=>by refine ah (eh ..) ?_;simp))
     ·rcases az.mp hy with hy | hy
      ·exact ⟨av _ (K.k3 y hy).1,(K.k3 y hy).2⟩
      ·exact ah (aq.mp hy) ⟨by simp,j,hj,hz,hlt⟩
     ·refine ah aE (gk cU (dn K.k4 (by simp) (λ a ha b hb=>(aH (aF.mp ha) λ y hy Uy=>?_))));subst Uy
      replace hb:=mB▸aU▸hb;rewrite [aq] at hb
      refine ah hb ?_
      intro e
      have:=(K.k3 y hy).1
      replace this:=e▸this
      exact hm this
   ·have:dC S Uz (mk,bh,o) x=(mk,bh,o):=by unfold dC;exact ah (if_neg λ q=>hz (dt hh (q.2.2))) rfl
    exact ah this (pF K (λ V h=>h) (λ V h=>h) (aw _) (λ V j' h' h0=>absurd (huniq j' h' ▸h0) hz))
  refine t9 step λ s1 s2 s3 s4 s5=>?_;clear step
  refine t9 (wB T r _ (λ y hy=>hr y (.tail _ hy)) s1) λ q1 q2 q3 q4 q5=>(ah fC (pF q1 (λ v hv=>q2 v (s2 v hv)) (λ v hv=>q3 v (s3 v hv)) (ac s4 q4) (λ y hy hne j hj h0=>?_)))
  clear hr q1 q3 q4 s1 s2 s3 s4;rcases aM.mp hy with rfl | hy
  ·exact q2 _ (s5 hne j hj h0)
  ·exact q5 y hy hne j hj h0
end
section
noncomputable def HK(N:Nat)(hs:List (Int×Int)):Prop:=∀k:Int,k∈hs.map (·.1)↔1<=k/\k<=N
theorem qP{α:Type}{r:List (Int×α)}:(lk r l).isSome=true↔l∈r.map (·.1):=by
 have:=ii r l
 cases e:lk r l with
 | none=>simp;exact λ x hx=>(this.mp e) (aF.mpr ⟨_,hx,rfl⟩)
 | some v=>
  replace this:=e▸this
  simp only [reduceCtorEq,false_iff,xL] at this
  simp only [iC,true_iff];exact this
structure Le(N:Nat)(W:(Nat->Bool)->Prop)(S:SS)(t:List Int):Prop where
 ex:∃(j:Nat) (l:Int) (tl:List Int),t=-l::tl/\S.row[j]? =some l/\fD S.begins j=S.begins.length/\∀x∈tl,∃i:Nat,S.row[i]? =some (-x)/\0<fD S.begins i/\fD S.begins i<S.begins.length
 nd:(t.map bE).Nodup
 sem:∀w,W w->∃x∈t,iI w x=true
structure Rx(N:Nat)(W:(Nat->Bool)->Prop)(S:SS)(mk bh:List Int)(o sp:Nat)(Uz:Int)(number:Nat):Prop where
 row:∃r,S.rows[number]? =some r/\(∀x∈r,x≠Uz->∃j,j<sp/\S.row[j]? =some (-x))/\(0<o\/∃x∈r,x≠Uz/\∃j,S.row[j]? =some (-x)/\fD S.begins j=S.begins.length)/\
  (∀x∈r,∃(j:Nat) (l:Int),S.row[j]? =some l/\l.natAbs=x.natAbs)/\
  ∀w,W w->(∃x∈bh,iI w x=true)\/(∃(j:Nat) (l:Int),j<sp/\S.row[j]? =some l/\q9 S mk j=true/\iI w (-l)=true)\/(∃x∈r,x≠Uz/\iI w x=true)
 spl:sp<=S.row.length
 mks:Mk S sp mk bh o
open Classical in
theorem Aa{p:Nat->Prop}:∀(n:Nat),(∃j,j<n/\p j)->∃j,j<n/\p j/\∀i,j<i->i<n->¬p i
 | 0,⟨j,h,_⟩=>absurd (au (a0 _) h) (by decide)
 | n+1,⟨j,h,hp⟩=>by
  by_cases hn:p n
  ·exact fV n (aK _) hn (λ i a b=>absurd a (eG.mpr (aQ b)))
  ·have hj:j<n:=by
    rcases bV j n with q | q
    ·exact q
    ·have:j=n:=a_ (aQ h) q
     clear h q;subst this;exact absurd hp hn
   (try clear h);refine cX (Aa n ⟨j,hj,hp⟩) λ k h1 h2 h3=>(fV k (bz h1 (aK _)) h2 (λ i a b=>?_))
   clear h1 hj;rcases bV i n with q | q
   ·exact h3 i a q
   ·have:i=n:=a_ (aQ b) q
    clear b h3 q;subst this;exact hn
theorem DJ(h:∀v∈mk,v∈mk')(o:q9 S mk j=true):q9 S mk' j=true:=cX (iM.mp o) λ l a b c=>(iM.mpr ⟨l,a,h _ b,c⟩)
theorem nA{w:Nat->Bool}(h0:l≠0)(h1:iI w l=true)(h2:iI w (-l)=true):False:=by
 replace h2:=h1▸um h0▸h2;exact (iP h2).elim
theorem nR.nz(T:nR N S)(h:l∈S.row):l≠0:=λ e=>by
 have:=(T.var l h).1;replace this:=e▸this;simp at this
theorem pb{r:List Int}(h1:(r.map bE).Nodup)(h2:∀l∈r,1<=l.natAbs/\l.natAbs<=N):r.length<=N:=by
 have hn:(r.map λ l=>((l.natAbs:Int)-1)).Nodup:=by
  unfold gp at h1⊢
  rw [cE] at h1⊢
  exact h1.imp λ h e=>h (Er e)
 have:=ix N _ hn λ k hk=>by
  refine aH (aF.mp hk) λ l hl Uv=>?_;subst Uv
  have:=h2 l hl;exact Ep this
 rwa [ag] at this
theorem BD{N:Nat}{W:(Nat->Bool)->Prop}(hN:N<=900)(C:Cr N W as S)(hg:∀(i:Nat) (r:List Int),S.rows[i]? =some r->Good N r)(hk:HK N S.heats)(hb:S.begins≠[]):kh S (Rx N W S) (Le N W S) where
 turn mk bh o sp Uz number hL:=by
  obtain ⟨⟨r,hr,hx,ho,hal,Xu⟩,Zd,K⟩:=hL
  have T:=C.trl
  have ZG:=hg number r hr
  have hcur:0<S.begins.length:=im.mpr hb
  refine t9 (wB T r (mk,bh,o) hx K) λ q1 q2 q3 q4 q5=>?_
  have hmk:mk.length<=N:=by
   have:=ix N (mk.map λ v=>v-1) (by
     have:=K.k1
     unfold gp at this⊢
     exact gk cE (this.imp λ h e=>h (Nl e))) (λ k hk=>by
     refine aH (aF.mp hk) λ v hv Uy=>?_;subst Uy
     refine gJ (K.k2 v hv) λ j l a b V=>?_
     have:=T.var l (am a);exact Nk b this)
   rwa [ag] at this
  have hbh:bh.length<=N:=pb K.k4 λ l hl=>by
   obtain ⟨_,j,a,_⟩:=K.k3 l hl
   have:=T.var _ (am a)
   rwa [b9] at this
  have hrl:r.length<=N:=pb ZG.2.1 ZG.2.2
  refine Oi r hr (ac hrl (ac hN (af _ _))) (ac hmk (ac hN (af _ _))) (ac hbh (ac hN (af _ _))) Zd (λ l hl=>?_) ?_
  ·refine cu (hal l hl) λ j l' a b=>?_
   have:=T.ht j l' a
   replace this:=b▸this
   refine ⟨ah this rfl,qP.mpr ((hk _).mpr ?_)⟩
   have:=ZG.2.2 l hl;exact bt (bU.mpr this.1) (bU.mpr this.2)
  dsimp only at q2 q3 q4
  generalize hmk' :(r.foldl (dC S Uz) (mk,bh,o)).1=mk' at*
  generalize hbh' :(r.foldl (dC S Uz) (mk,bh,o)).2.1=bh' at*
  generalize ho' :(r.foldl (dC S Uz) (mk,bh,o)).2.2=o' at*
  have hpos:0<o' :=by
   rcases ho with h | ⟨x,Wc,hne,j,hj,hl⟩
   ·exact ai h q4
   ·refine aH (hx x Wc hne) λ j' hj' hj2=>?_
    have e:=T.tr.inj hj hj2 rfl
    (try clear hj2);subst e
    exact ah q1.k5 (HA hj' (iM.mpr ⟨_,hj,ah (b9 ..) (q5 x Wc hne j hj (yc hl hcur)),hl⟩))
  refine aH (wR (dt q1.k5 hpos)) λ j0 Zg ho0=>?_
  refine cX (iM.mp ho0) λ l0 hl0 hm0 hv0=>(cX (Aa (p:=λ j=>∃l,S.row[j]? =some l/\(l.natAbs:Int)∈mk') sp ⟨j0,Zg,l0,hl0,hm0⟩) λ j hj UB hno=>(aH UB λ l hl hlm=>?_));clear UB
  have hj0j:j0<=j:=by
   rcases bV j j0 with q | q
   ·exact absurd ⟨l0,hl0,hm0⟩ (hno j0 q Zg)
   ·exact q
  have hlj:fD S.begins j=S.begins.length:=by
   have h1:=pq (bs:=S.begins) hj0j
   have h2:=qj S.begins j
   exact a_ h2 (xb hv0 h1)
  have hoj:q9 S mk' j=true:=iM.mpr ⟨l,hl,hlm,hlj⟩
  have hgap:cnt S mk' sp=cnt S mk' j+1:=Aw sp (λ i a b=>by
   cases e:q9 S mk' i with
   | false=>rfl
   | true=>
    exact cX (iM.mp e) λ l' c d V=>(absurd ⟨l',c,d⟩ (hno i a b))) hoj hj
  have hl0' :l≠0:=T.nz (am hl)
  --what the marks say
  have hs' :∀w,W w->(∃x∈bh',iI w x=true)\/(∃(j:Nat) (l:Int),j<sp/\S.row[j]? =some l/\q9 S mk' j=true/\iI w (-l)=true):=λ w hw=>by
   rcases Xu w hw with ⟨x,h1,h2⟩ | ⟨i,y,h1,h2,h3,h4⟩ | ⟨x,h1,h2,h3⟩
   ·exact .inl ⟨x,q3 x h1,h2⟩
   ·exact .inr ⟨i,y,h1,h2,DJ q2 h3,h4⟩
   ·refine aH (hx x h1 h2) λ i hi hi2=>?_
    have hx0:x≠0:=λ e=>T.nz (am hi2) (ah e rfl)
    rcases d4 (fD S.begins i) with hz | hz
    ·exact (nA hx0 h3 (C.snd.c2 i _ hi2 hz w hw)).elim
    ·have hm:=q5 x h1 h2 i hi2 hz
     by_cases hc:fD S.begins i=S.begins.length
     ·exact .inr ⟨i,-x,hi,hi2,iM.mpr ⟨_,hi2,ah (b9 ..) hm,hc⟩,ah (eh ..) h3⟩
     ·clear hi hz;refine jo (q1.k2 _ hm) λ i' y a b c d=>?_
      have e:i' =i:=T.tr.inj a hi2 (by refine ah (b9 ..) ?_;exact_mod_cast b)
      clear b;subst e
      replace a:=hi2▸a;(try clear b);have UC:=sI a;clear a;subst UC
      have:=d (cV (qj _ _) hc)
      replace this:=(eh ..)▸this
      exact .inl ⟨x,this,h3⟩
  refine Og j l hj hl hlm (λ i l' a b c d=>hno i a b ⟨l',c,d⟩) hpos (λ h1=>?_) (λ h1=>?_)
  ·refine ⟨⟨j,l,bh',rfl,hl,hlj,λ x hx' =>(q1.k3 x hx').2⟩,?_,λ w hw=>?_⟩
   ·refine ah aU (gk aY ⟨λ h=>?_,q1.k4⟩)
    clear hgap hj hj0j hno hoj;refine aH (aF.mp h) λ x Xj XB=>?_
    obtain ⟨_,i,a,b,c⟩:=q1.k3 x Xj
    have:=T.tr.inj a hl (ae (b9 ..) (ae XB (ae (b9 ..) rfl)))
    clear hl;subst this;exact bP c hlj
   ·clear hgap hj0j hl0' hlj hlm hno;rcases hs' w hw with ⟨x,a,b⟩ | ⟨i,y,a,b,c,d⟩
    ·exact bY x (.tail _ a) b
    ·have:=HB (sV q1.k5 h1) a hj c hoj
     clear hj hoj;subst this
     replace b:=hl▸b;clear hl;have UF:=sI b;clear b;subst UF
     exact bY _ (.head _) d
  ·have hne:j∉S.begins:=λ hjb=>h1 (by
    refine ae q1.k5 (ae hgap ?_)
    rcases d4 (cnt S mk' j) with h | h
    ·exact ah h rfl
    ·refine aH (wR h) λ i hi hoi=>(cX (iM.mp hoi) λ V V V h3=>?_)
     have:=tQ hjb hi
     exact Nj this hlj h3)
   clear hj0j hlm hoj;refine pI (T.ca j l hl) λ oc c1 c2 c3 c4=>?_
   clear c3;refine aS (c4 hne (yc hlj hcur)) λ c UP=>?_;subst UP
   refine cX (c2 c rfl) λ r2 Yd hlr Wc=>⟨c,c1,⟨r2,Yd,λ x h2 h3=>?_,.inl (lE (cV hpos h1.symm)),λ x h2=>?_,λ w hw=>?_⟩,aG (ai hj Zd),⟨q1.k1,q1.k2,q1.k3,q1.k4,ah q1.k5 (ah hgap rfl)⟩⟩
   ·refine aS (aL.mp (Wc x h2 h3)) λ i hi=>?_
    replace hi:=bS▸hi
    split at hi
    ·exact bY i (by assumption) hi
    ·exact (bH hi).elim
   ·by_cases e:x=l
    ·exact ib j l hl (ah e rfl)
    ·exact aS (aL.mp (cH _ _ (Wc x h2 e))) λ i hi=>(ib i _ hi (b9 x))
   ·clear c1 c2 c4 hgap hj hlj hlr hne Wc;rcases hs' w hw with h | ⟨i,y,a,b,c',d⟩
    ·exact .inl h
    ·rcases lF i j with q | q | q
     ·exact .inr (.inl ⟨i,y,q,b,c',d⟩)
     ·clear hno;subst q
      replace b:=hl▸b;clear hl;have UQ:=sI b;clear b;subst UQ
      exact aH (C.snd.c1 r2 (am Yd) w hw) λ x Xj XB=>(.inr (.inr ⟨x,Xj,λ e=>nA hl0' (e▸XB) d,XB⟩))
     ·exact cX (iM.mp c') λ l' e1 e2 V=>(absurd ⟨l',e1,e2⟩ (hno i q a))
theorem BE{W:(Nat->Bool)->Prop}(P:PS N W as S0 S i):Rx N W S [] [] 0 S.row.length 0 i:=by
 refine cX P.cl λ r hr hx UT=>(gJ UT λ j l hj hl hv=>?_);clear UT
 have hx' :∀x∈r,∃j:Nat,S.row[j]? =some (-x):=λ x h=>aL.mp (hx x h)
 have hn0:∀x∈r,x≠0:=λ x h e=>by
  have:=(P.wt.w1 i r hr).2.2 x h
  replace this:=e▸this;simp at this
 refine ⟨⟨r,hr,λ x h V=>?_,.inr ⟨-l,hl,hn0 _ hl,j,ah (eh ..) hj,hv⟩,λ x h=>?_,λ w hw=> .inr (.inr ?_)⟩,aw _,⟨eJ,λ v hv=>(by cases hv),λ v hv=>(by cases hv),eJ,?_⟩⟩
 ·exact aS (hx' x h) λ j hj=>(bY j ((al.mp hj).1) hj)
 ·exact aS (hx' x h) λ j hj=>(ib j _ hj (b9 x))
 ·exact aH (P.cr.snd.c1 r (am hr) w hw) λ x h1 h2=>(fV x h1 (hn0 x h1) h2)
 ·refine (List.length_eq_zero_iff.mpr (gk xI ?_)).symm
  intro j _ h
  refine cX (iM.mp h) λ V V h V=>?_
  cases h
theorem Le.vars{W:(Nat->Bool)->Prop}(T:nR N S)(h:Le N W S t):∀l∈t,1<=l.natAbs/\l.natAbs<=N:=by
 obtain ⟨⟨j,l,tl,rfl,hl,_,htl⟩,_,_⟩:=h
 intro x hx
 rcases aM.mp hx with rfl | hx
 ·have:=T.var l (am hl);rwa [b9]
 ·refine aH (htl x hx) λ i a V=>?_
  have:=T.var _ (am a);rwa [b9] at this
theorem Le.ok{W:(Nat->Bool)->Prop}{t:List Int}(hN:N<=60)(T:nR N S)(h:Le N W S t):sG S t:=by
 have hv:=h.vars T
 have hln:=pb h.nd hv
 obtain ⟨⟨j,l,tl,rfl,hl,_,htl⟩,hnd,_⟩:=h
 refine ⟨?_,au hln (au hN (by decide)),by simp,λ x hx=>by have:=hv x hx;exact Jf this hN,λ x hx=>?_⟩
 ·unfold gp at hnd
  rewrite [cE] at hnd
  exact hnd.imp λ h e=>h (by exact ah e (ah (b9 ..) rfl))
 ·refine aH (htl x hx) λ i a V=>?_
  have:=T.ht i _ a
  replace this:=(b9 ..)▸this
  exact ah this rfl
end
section
theorem xl.back{W:(Nat->Bool)->Prop}(T:nR N S)(C:xl W S)(k:Nat):xl W (cP S k):=by
 cases hb:S.begins[k]? with
 | none=>exact ah (kc hb) C
 | some b=>
  refine t8 (lu hb (T.be b (am hb))) λ e1 e2 e3 e4 e5 e6 e7=>?_
  have hrow:∀(i:Nat) (l:Int),(S.row.take b)[i]? =some l->S.row[i]? =some l/\i<b:=λ i l h=>by
   replace h:=bS▸h
   split at h
   ·exact ⟨h,by assumption⟩
   ·exact (bH h).elim
  refine ⟨ah e6 C.c1,?_,?_⟩
  ·refine ah e1 (ah e2 ?_)
   intro i l hi h0
   exact aP (hrow i l hi) λ h1 h2=>(C.c2 i l h1 (sV (lm T.bs hb h2) h0))
  ·refine ah e1 (ah e2 (ah e6 ?_))
   intro w h1 h2
   refine C.c4 w h1 λ i l hi h0=>?_
   have hib:i<b:=by
    rcases bV i b with q | q
    ·exact q
    ·have:=DW T.bs hb q;exact Ni this h0
   exact h2 i l (ae bS (ae (if_pos hib) hi)) (ae (lm T.bs hb hib) h0)
theorem xE.back{W:(Nat->Bool)->Prop}(T:nR N S)(C:xE W as S)(k:Nat):xE W as (cP S k):=by
 cases hb:S.begins[k]? with
 | none=>exact ah (kc hb) C
 | some b=>
  have Vh:=T.be b (am hb)
  refine t8 (lu hb Vh) λ e1 e2 e3 e4 e5 e6 e7=>⟨?_,?_⟩
  ·refine ah e1 (ah e2 ?_)
   intro j a b' ha hj
   replace hj:=bS▸hj
   split at hj
   ·rename_i hjk
    have:=C.d1 j a b' ha hj
    refine ah bS (eC (λ h=>?_) λ V=>?_)
    ·have hkl:=(al.mp hb)
     have hjl:j+1<S.begins.length:=bz h hkl.1
     have hle2:S.begins[j+1]<=b:=by
      have:=(cW.mp T.bs) (j+1) k hjl hkl.1 h
      replace this:=hkl.2▸this;exact this
     rw [aB hjl] at this⊢
     exact ((ah i6 (ah (dW hle2) this)):a∈(S.row.take b).take S.begins[j+1])
    ·have e:j+1=k:=a_ (bB hjk) (b0 (by assumption))
     replace this:=hb▸e▸this
     exact ((ah bn this):a∈(S.row.take b).take (S.row.take b).length)
   ·exact (bH hj).elim
  ·refine ah e1 (ah e2 ?_)
   intro i l hi
   replace hi:=bS▸hi
   split at hi
   ·rename_i h
    exact ah (lm T.bs hb h) (C.d2 i l hi)
   ·exact (bH hi).elim
theorem Cr.back{W:(Nat->Bool)->Prop}(C:Cr N W as S)(k:Nat):Cr N W as (cP S k):=⟨C.trl.back k,C.snd.back C.trl k,C.asm.back C.trl k⟩
theorem xE.zero{W:(Nat->Bool)->Prop}(h:S.begins=[])(C:xl W S):xE W as S:=
 ⟨λ k a b V hb=>by replace hb:=h▸hb;simp at hb,λ i l hi V w hw V=>C.c2 i l hi (ah h rfl) w hw⟩
theorem Eb(S:SS)(x y:Int)(t:List Int):iy S (x::y::t)=gq (gq (S.uRows (S.rows++[x::y::t])) x S.rows.length) y S.rows.length:=by
 unfold iy
 simp only [List.take_succ_cons,List.take_zero,fC,List.foldl_nil]
 have h1:(S.rows++[x::y::t]).length-1=S.rows.length:=ah aA (ah aW rfl)
 have h2:(gq (S.uRows (S.rows++[x::y::t])) x S.rows.length).rows.length-1=S.rows.length:=h1
 exact ((ah h1 (ah h2 rfl)):gq (gq _ x ((S.rows++[x::y::t]).length-1)) y ((gq _ x ((S.rows++[x::y::t]).length-1)).rows.length-1)=_)
theorem u'{r:List Int}:(rows++[c])[j]? =some r↔(rows[j]? =some r\/(j=rows.length/\r=c)):=by
 rcases bV j rows.length with h | h
 ·exact ah (cK h) ⟨.inl,λ q=>q.elim id λ q=>absurd (bP h q.1) (by decide)⟩
 ·refine ah (c8 h) (ah (bD h) ?_)
  constructor
  ·intro q
   rcases d4 (j-rows.length) with e | e
   ·replace q:=e▸q;exact .inr ⟨Od h e,(bq q).symm⟩
   ·rewrite [bD (by simp;exact bB e)] at q;exact (bH q).elim
  ·rintro (q | ⟨q1,q2⟩)
   ·exact (bH q).elim
   ·exact ah q1 (ah (kF ..) (ah q2 rfl))
theorem mu.keep(W:mu N S lost [])(hg:Good N c):mu N (iy S c) lost []:=by
 match c,hg with
 | x::y::t,hg=>
  refine ah (Eb ..) ?_
  have hxy:x≠y:=λ e=>hg.ne (i:=0) (j:=1) (x:=x) (y:=y) rfl rfl (by decide) (ah e rfl)
  have he:∀l,wp (gq (gq (S.uRows (S.rows++[x::y::t])) x S.rows.length) y S.rows.length) lost [] l=wl S l++(if l=x\/l=y then [S.rows.length] else []):=λ l=>by
   refine ae (jw ..) (ae (pa ..) (ah (pa ..) (ah (pa ..) ?_)))
   by_cases h:l=y
   ·(try clear hg);subst h
    exact ae (if_pos rfl) (ah (if_neg (λ e=>hxy e.symm)) (ah (if_pos (.inr rfl)) rfl))
   ·refine ae (if_neg h) ?_
    by_cases h' :l=x
    ·exact ae (if_pos h') (ah (if_pos (.inl h')) (ah h' rfl))
    ·exact ae (if_neg h') (ah (if_neg (by simp [h,h'])) (ah (cw ..) rfl))
  have hnew:∀l,S.rows.length∉wl S l:=λ l h=>by
   replace h:=dc (jw S lost l)▸h
   refine aH ((W.w3 l _).mp h) λ r hr V=>?_
   replace hr:=bD (aw _)▸hr;exact (bH hr).elim
  refine ⟨λ j r h=>?_,λ l=>?_,λ l j=>?_⟩
  ·rcases u'.mp h with h | ⟨_,rfl⟩
   ·exact W.w1 j r h
   ·exact hg
  ·refine ah (he ..) ?_
   have:=W.w2 l
   replace this:=(jw ..)▸this
   refine cU.mpr ⟨this,by refine eC (λ V=>?_) λ V=>?_<;>simp,λ a ha b hb e=>?_⟩
   split at hb
   ·replace e:=aq.mp hb▸e;exact hnew l (e▸ha)
   ·cases hb
  ·refine ah (he ..) (gk az (dt (jw S lost l) (gk (W.w3 l j) (?_:_↔∃r,(S.rows++[x::y::t])[j]? =some r/\_))))
   constructor
   ·clear he hg hxy;rintro (⟨r,h1,h2⟩ | h)
    ·exact bY r (u'.mpr (.inl h1)) h2
    ·split at h
     ·rename_i hl
      refine ah (aq.mp h) (bY _ (u'.mpr (.inr ⟨rfl,rfl⟩)) ?_)
      clear hg;rcases hl with rfl | rfl
      ·exact .inl rfl
      ·exact .inr rfl
     ·cases h
   ·intro Uv;refine aH Uv λ r h1 h2=>?_;clear Uv
    rcases u'.mp h1 with h | ⟨rfl,rfl⟩
    ·exact .inl ⟨r,h,h2⟩
    ·refine .inr ?_
     have:l=x\/l=y:=h2.elim (λ h=> .inl (bq h).symm) (λ h=> .inr (bq h).symm)
     exact ah (if_pos this) (aN _)
noncomputable def val(f:Nat->Bool):Nat->Nat
 | 0=>0
 | n+1=>2*val f n+if f n then 1 else 0
theorem C7(f:Nat->Bool):∀n,val f n<2^n
 | 0=>by simp [val]
 | n+1=>by
  have:=C7 f n
  refine ((ah (zq ..) ?_):2*val f n+(if f n then 1 else 0)<2^(n+1))
  refine eC (λ V=>?_) λ V=>?_<;>lia
theorem uf{f g:Nat->Bool}:∀n,(∀i,i<n->f i=true->g i=true)->val f n<=val g n
 | 0,_=>aw _
 | n+1,h=>by
  have:=uf n λ i hi=>h i (bz hi (aK _))
  refine (?_:2*val f n+(if f n then 1 else 0)<=2*val g n+(if g n then 1 else 0))
  have hn:=h n (aK _)
  cases e1:f n with
  | false=>simp;exact ac (bF _ this) (ax _ _)
  | true=>refine ah (hn e1) ?_;simp;exact bF _ this
theorem vW{f g:Nat->Bool}:∀n,b<n->(∀i,i<b->f i=true->g i=true)->f b=false->g b=true->val f n<val g n
 | 0,h,_,_,_=>absurd (au (a0 _) h) (by decide)
 | n+1,h,hi,h1,h2=>by
  refine (?_:2*val f n+(if f n then 1 else 0)<2*val g n+(if g n then 1 else 0))
  rcases bV b n with q | q
  ·have:=vW n q hi h1 h2
   refine eC (λ V=>?_) λ V=>?_<;>refine eC (λ V=>?_) λ V=>?_<;>lia
  ·have:b=n:=a_ (aQ h) q
   clear h q;subst this
   refine ah h1 (ah h2 ?_)
   have:=uf b hi
   simp;exact au (bF _ this) (aK _)
noncomputable def qf(S:SS)(i:Nat):Bool:=decide (i<S.row.length)&&decide (i∉S.begins)
theorem jL:qf S i=true↔i<S.row.length/\i∉S.begins:=by unfold qf;simp
end
section
theorem rn{x:Int}(hx:(row++[l])[i]? =some x):row[i]? =some x\/(i=row.length/\x=l):=by
 rcases bV i row.length with h | h
 ·replace hx:=cK h▸hx;exact .inl hx
 ·replace hx:=c8 h▸hx
  have:i-row.length=0:=by
   rcases d4 (i-row.length) with h | h
   ·exact h
   ·rewrite [bD (by simp;exact bB h)] at hx;exact (bH hx).elim
  replace hx:=this▸hx
  exact .inr ⟨Od h this,(bq hx).symm⟩
theorem zM{l x:Int}{i:Nat}(hx:row[i]? =some x):(row++[l])[i]? =some x:=ae (cK (al.mp hx).1) hx
theorem xl.let_{W:(Nat->Bool)->Prop}(C:xl W S)(h:fD S.begins S.row.length=0->∀w,W w->iI w l=true):xl W (ln S l c):=by
 refine ⟨C.c1,λ i x hi h0 w hw=>?_,λ w h1 h2=>C.c4 w h1 λ i x hi h0=>h2 i x (zM hi) h0⟩
 have hi' :(S.row++[l])[i]? =some x:=hi
 (try clear hi);rcases rn hi' with q | ⟨rfl,rfl⟩
 ·exact C.c2 i x q h0 w hw
 ·exact h h0 w hw
theorem xE.let_{W:(Nat->Bool)->Prop}(T:nR N S)(C:xE W as S)(h:fD S.begins S.row.length<=as.length->∀w,W w->(∀a∈as,iI w a=true)->iI w l=true):xE W as (ln S l c):=by
 refine ⟨λ k a b ha hb=>?_,λ i x hi h0 w hw hA=>?_⟩
 ·have UU :S.begins[k]? =some b:=hb
  have:=C.d1 k a b ha UU
  refine (?_:a∈(S.row++[l]).take ((S.begins[k+1]?).getD (S.row++[l]).length))
  cases e:S.begins[k+1]? with
  | none=>
   replace this:=e▸this
   exact ((ah bn (av _ (cH _ _ this))):a∈(S.row++[l]).take (S.row++[l]).length)
  | some b' =>
   replace this:=e▸this
   exact ((ah (dP (T.be b' (am e))) this):a∈(S.row++[l]).take b')
 ·have hi' :(S.row++[l])[i]? =some x:=hi
  (try clear hi);rcases rn hi' with q | ⟨rfl,rfl⟩
  ·exact C.d2 i x q h0 w hw hA
  ·exact h h0 w hw hA
theorem rU:∀(c:List Int) (S:SS),∃w,(c.foldl (λ S l=>gq S l (S.rows.length-1)) S)=(S.uWatch w)
 | [],S=>⟨S.watch,rfl⟩
 | l::c,S=>aS (rU c (gq S l (S.rows.length-1))) λ w hw=>⟨w,ae fC (ae hw rfl)⟩
theorem i9(S:SS)(c:List Int):∃w,iy S c=((S.uRows (S.rows++[c])).uWatch w):=aS (rU (c.take 2) (S.uRows (S.rows++[c]))) λ w hw=>⟨w,hw⟩
theorem nR.newrow(T:nR N S)(c:List Int):nR N (iy S c):=aS (i9 S c) λ w e=>(ah e (T.turn rfl rfl rfl rfl rfl λ k r hr=>⟨r,u'.mpr (.inl hr),λ x=>o_⟩))
theorem xl.newrow{W:(Nat->Bool)->Prop}(C:xl W S)(h:∀w,W w->∃x∈c,iI w x=true):xl W (iy S c):=by
 refine aS (i9 S c) λ v e=>(ah e ⟨λ r hr w hw=>?_,C.c2,λ w h1 h2=>C.c4 w (λ r hr=>h1 r (av _ hr)) h2⟩)
 rcases az.mp hr with hr | hr
 ·exact C.c1 r hr w hw
 ·exact ah (aq.mp hr) (h w hw)
theorem xE.newrow{W:(Nat->Bool)->Prop}(C:xE W as S)(c:List Int):xE W as (iy S c):=aS (i9 S c) λ v e=>(ah e ⟨C.d1,C.d2⟩)
theorem jb(S:SS)(k:Nat):(cP S k).heats=S.heats/\(cP S k).lock=S.lock/\(cP S k).limit=S.limit/\(cP S k).clashes=S.clashes/\(cP S k).refuted=S.refuted/\(cP S k).log=S.log/\(cP S k).blamed=S.blamed/\(cP S k).rows=S.rows/\(cP S k).watch=S.watch:=by
 unfold cP
 split at⊢
 ·exact Jl rfl rfl rfl rfl rfl rfl rfl rfl rfl
 ·refine kJ (io (S.row.length-‹Nat›) S) λ V V V e=>?_;exact ah e (Jl rfl rfl rfl rfl rfl rfl rfl rfl rfl)
structure Lv(N:Nat)(W:(Nat->Bool)->Prop)(as:List Int)(S:SS):Prop where
 cr:Cr N W as S
 wt:mu N S 0 []
 wi:∀(i:Nat) (r:List Int),S.rows[i]? =some r->qa (S.row.take S.seen) S.row r
 wb:∀b∈S.begins,∀(i:Nat) (r:List Int),S.rows[i]? =some r->qa (S.row.take b) (S.row.take b) r
 bs:∀b∈S.begins,b<=S.seen
 sl:S.seen<=S.row.length
theorem Lv.js{W:(Nat->Bool)->Prop}(L:Lv N W as S):JS N W as S S:=⟨L.cr,L.wt,L.wi,L.wb,L.bs,L.sl,re.refl S⟩
theorem JS.lv{W:(Nat->Bool)->Prop}(L:JS N W as S0 S):Lv N W as S:=⟨L.cr,L.wt,L.wi,L.wb,L.bs,L.sl⟩
theorem Ek(T:nR N S)(h:S.row[i]? =some (-x)):md S x=fD S.begins i:=by
 have:=T.ht i _ h
 replace this:=(b9 ..)▸this
 unfold md;exact ah this rfl
structure Rt(S S' :SS)(d:Int)(c:List Int)(h b:Nat):Prop where
 hb:S.begins[h]? =some b
 nb:b∉S.begins.take h
 begins:S'.begins=S.begins.take h
 row:S'.row=S.row.take b++[d]
 seen:S'.seen=b
 rows:S'.rows.length<=S.rows.length+1
 log:S'.log=S.log++[c]
 heats:S'.heats=S.heats
 lock:S'.lock=S.lock
 limit:S'.limit=S.limit
 clashes:S'.clashes=S.clashes
 refuted:S'.refuted=S.refuted
theorem DY{W:(Nat->Bool)->Prop}(C:Cr N W as S)(wt:mu N S 0 [])(wb:∀b∈S.begins,∀(i:Nat) (r:List Int),S.rows[i]? =some r->qa (S.row.take b) (S.row.take b) r)
  (hne:S.begins≠[]) (ht:Le N W S t) (hd:t=d::t.tail) (hp:τ.Perm t.tail) (hs:τ.Pairwise (λ x y=>md S y<=md S x)):
  Lv N W as (mT S d c τ)/\∃h b,Rt S (mT S d c τ) d c h b:=by
 have hvt:=ht.vars C.trl
 obtain ⟨⟨j,l,tl,rfl,hl,hlj,htl⟩,hnd,Xu⟩:=ht
 obtain rfl:-l=d:=(sN hd).1
 have hp' :τ.Perm tl:=hp
 clear hd hp
 have hl0:l≠0:=C.trl.nz (am hl)
 have hcur:0<S.begins.length:=im.mpr hne
 have hτ:∀x∈τ,∃i:Nat,S.row[i]? =some (-x)/\0<fD S.begins i/\fD S.begins i<S.begins.length:=λ x hx=>htl x (hp'.mem_iff.mp hx)
 obtain ⟨h,hdef⟩:∃h:Nat,(τ=[]/\h=0)\/(∃x VB,τ=x::VB /\h=md S x):=match τ with
  | []=>⟨0,.inl ⟨rfl,rfl⟩⟩
  | x::VB =>⟨md S x,.inr ⟨x,VB,rfl,rfl⟩⟩
 have hmax:∀x∈τ,∃i:Nat,S.row[i]? =some (-x)/\0<fD S.begins i/\fD S.begins i<=h:=λ x hx=>by
  (try clear hp');refine cX (hτ x hx) λ i a b V=>(fV i a b ?_)
  have e:=Ek C.trl a
  clear hτ;rcases hdef with ⟨rfl,_⟩ | ⟨y,VB,rfl,rfl⟩
  ·cases hx
  ·rcases aM.mp hx with rfl | hx
   ·exact aC (dc e)
   ·have:=(fh.mp hs).1 x hx;exact xb e this
 have hτe:τ≠[]->∃i x,x∈τ/\S.row[i]? =some (-x)/\fD S.begins i=h/\τ.head? =some x:=λ q=>by
  clear hmax hp' hs;rcases hdef with ⟨rfl,_⟩ | ⟨y,VB,rfl,rfl⟩
  ·exact absurd rfl q
  ·exact cX (hτ y (.head _)) λ i a b V=>(pE i y (.head _) a ((Ek C.trl a).symm) rfl)
 have hτ0:τ=[]->h=0:=λ e=>by
  clear hmax hp' hs hτ hτe;rcases hdef with ⟨_,rfl⟩ | ⟨y,VB,rfl,rfl⟩
  ·rfl
  ·cases e
 have hh:h<S.begins.length:=by
  by_cases e:τ=[]
  ·exact ah (hτ0 e) hcur
  ·refine jo (hτe e) λ i x hx a b V=>(cX (hτ x hx) λ i' a' V b' =>?_)
   have:=C.trl.tr.inj a a' rfl
   (try clear a');subst this;exact yb b b'
 have hb:S.begins[h]? =some S.begins[h]:=aB hh
 (try clear hs);generalize S.begins[h]=b at hb
 --before b
 have hlt:∀{i:Nat},fD S.begins i<=h->i<b:=λ{i} q=>by
  rcases bV i b with g | g
  ·exact g
  ·have:=DW C.trl.bs hb g;exact Nh this q
 have hbelow:∀b' ∈S.begins.take h,b' <b:=λ b' UU =>by
  refine aS (aL.mp UU) λ k hk=>?_
  replace hk:=bS▸hk
  split at hk
  ·rename_i Yg
   have hte:τ≠[]:=λ e=>by replace Yg:=hτ0 e▸Yg;exact cj (au (a0 _) Yg) rfl
   refine jo (hτe hte) λ i x hx a e V=>?_
   have hib:=hlt (aC e)
   rcases bV i b' with q | q
   ·have:=yB C.trl.bs hk q;exact Ng Yg e this
   ·exact au q hib
  ·exact (bH hk).elim
 have hbelow2:∀b' ∈S.begins.take h,∀x,τ.head? =some x->-x∉S.row.take b' :=λ b' UU x hx hm=>by
  refine aS (aL.mp UU) λ k hk=>?_
  replace hk:=bS▸hk
  split at hk
  ·rename_i Yg
   refine jo (hτe (λ e=>by replace hx:=e▸hx;exact (bH hx).elim)) λ i x' V a e hx' =>?_
   replace hx' :=hx▸hx';(try clear hx);have Uv:=sI hx';clear hx';subst Uv
   refine aS (aL.mp hm) λ i' hi' =>?_
   replace hi' :=bS▸hi'
   split at hi'
   ·rename_i hib
    have:=C.trl.tr.inj a hi' rfl
    (try clear hi');subst this
    have:=yB C.trl.bs hk hib;exact cj (au this Yg) (dc e)
   ·exact (bH hi').elim
  ·exact (bH hk).elim
 have hnb:b∉S.begins.take h:=λ q=>cC _ (hbelow b q)
 have Vh:=C.trl.be b (am hb)
 have hjb:b<=j:=by
  rcases bV j b with q | q
  ·have:=yB C.trl.bs hb q;exact Nf hh hlj this
  ·exact q
 have hlnot:l∉S.row.take b/\-l∉S.row.take b:=by
  constructor
  ·intro q
   refine aS (aL.mp q) λ i hi=>?_
   replace hi:=bS▸hi
   split at hi
   ·have:=C.trl.tr.inj hi hl rfl;exact cj (ai (by assumption) hjb) (dc this)
   ·exact (bH hi).elim
  ·intro q
   refine aS (aL.mp q) λ i hi=>?_
   replace hi:=bS▸hi
   split at hi
   ·have:=C.trl.tr.inj hi hl (b9 l);exact cj (ai (by assumption) hjb) (dc this)
   ·exact (bH hi).elim
 --the parts
 let S1:SS:=(S.uLog (S.log++[c]))
 have C1:Cr N W as S1:=C.turn rfl rfl rfl rfl rfl ⟨rfl,λ V r h=>⟨r,h,.refl _⟩⟩
 have hb1:S1.begins[h]? =some b:=hb
 have C2:=C1.back h
 (try clear hs);refine t8 (lu hb1 Vh) λ e1 e2 e3 e4 e5 e6 e7=>?_
 clear hb1;refine EA (jb S1 h) λ f1 f2 f3 f4 f5 f6 f7 V V=>?_
 have hwt2:mu N (cP S1 h) 0 []:=wt.same e6 e7
 generalize hS2:cP S1 h=S2 at*
 have r1:S2.row=S.row.take b:=e1
 have r2:S2.begins=S.begins.take h:=e2
 have r6:S2.rows=S.rows:=e6
 have hrl:S2.row.length=b:=by exact ah r1 (ae bL (dW Vh))
 have hsays:says S2 (-l)=none:=by
  rcases C2.trl.tr.cases (l:=-l) (by exact Nd hl0) with ⟨_,q⟩ | ⟨_,q⟩ | ⟨q,_,_⟩
  ·replace q:=r1▸q;exact absurd q hlnot.2
  ·replace q:=(eh ..)▸r1▸q;exact absurd q hlnot.1
  ·exact q
 have hv:=hvt (-l) (.head _)
 have hbl:∀b' ∈S2.begins,b' <S2.row.length:=λ b' q=>by replace q:=r2▸q;exact ah hrl (hbelow b' q)
 have hlev:fD S2.begins S2.row.length=h:=by
  refine ae (nF C2.trl.be) (ah r2 (ae bL ?_));exact dW (aG hh)
 --what the lesson says
 have hsem2:∀w,W w->(∀x∈τ,iI w (-x)=true)->iI w (-l)=true:=λ w hw hq=>by
  refine aH (Xu w hw) λ x hx hxs=>?_
  rcases aM.mp hx with rfl | hx
  ·exact hxs
  ·have hx' :=hp'.mem_iff.mpr hx
   exact aH (hτ x hx') λ i a V=>((nA (λ e=>C.trl.nz (am a) (by exact ah e rfl)) hxs (hq x hx')).elim)
 have hu0:fD S2.begins S2.row.length=0->∀w,W w->iI w (-l)=true:=λ q w hw=>by
  refine hsem2 w hw λ x hx=>(cX (hmax x hx) λ i a b1 c1=>?_)
  exact Nc b1 q hlev c1
 have hu1:fD S2.begins S2.row.length<=as.length->∀w,W w->(∀a∈as,iI w a=true)->iI w (-l)=true:=λ q w hw hA=>by
  exact hsem2 w hw λ x hx=>(cX (hmax x hx) λ i a b1 c1=>(C.asm.d2 i _ a (by exact ac c1 (xb hlev q)) w hw hA))
 --old rows at rest
 have hold:∀(i:Nat) (r:List Int),S.rows[i]? =some r->qa (S.row.take b) (S.row.take b) r:=wb b (am hb)
 have holdb:∀b' ∈S.begins.take h,∀(i:Nat) (r:List Int),S.rows[i]? =some r->qa (S.row.take b') (S.row.take b') r:=λ b' q=>wb b' (cH _ _ q)
 have htk:∀b',b' <=b->∀d:Int,(S.row.take b++[d]).take b' =S.row.take b' :=λ b' q d=>by
  exact ae (dP (by refine ah bL ?_;exact vz.mpr ⟨q,ac q Vh⟩)) (ae i6 (ah (dW q) rfl))
 clear e2 hh hlev hsem2 hτ hτ0 hτe;rcases hdef with ⟨rfl,rfl⟩ | ⟨x,VB,rfl,rfl⟩
 ·--a unit
  have e:mT S (-l) c []=ln S2 (-l) none:=by exact dt hS2 rfl
  refine ah e ?_
  have hbn:S2.begins=[]:=by exact ae r2 rfl
  refine ⟨⟨⟨C2.trl.let_ hsays hv (λ k hk=>by exact (bH hk).elim) (λ V=>rfl) (λ V q=>absurd hbn q),C2.snd.let_ hu0,C2.asm.let_ C2.trl hu1⟩,hwt2.same rfl rfl,λ i r hr=>?_,λ b' UU =>?_,λ b' UU =>?_,?_⟩,0,b,hb,hnb,r2,by exact ((ah r1 rfl):S2.row++[-l]=_),e3,by exact ((ah r6 (gm _)):S2.rows.length<=_),f6,f1,f2,f3,f4,f5⟩
  ·have hr' :S2.rows[i]? =some r:=hr
   replace hr' :=r6▸hr'
   refine ((ah r1 (ah e3 ?_)):qa ((S2.row++[-l]).take S2.seen) (S2.row++[-l]) r);rewrite [htk b (aw _)]
   exact (hold i r hr').mono (λ V h=>h) λ V h=>av _ h
  ·have UY :b' ∈S2.begins:=UU
   replace UY :=hbn▸UY;cases UY
  ·have UY :b' ∈S2.begins:=UU
   replace UY :=hbn▸UY;cases UY
  ·exact ((ah e3 (ah aA (ah hrl (ax _ _)))):S2.seen<=(S2.row++[-l]).length)
 ·--a row
  have e:mT S (-l) c (x::VB)=ln (iy S2 (-l::x::VB)) (-l) (some S.rows.length):=by exact dt hS2 rfl
  refine ah e ?_
  have hgood:Good N (-l::x::VB):=by
   have hpp:(-l::x::VB).Perm (-l::tl):=hp'.cons _
   exact dn (by simp) (((hpp.map bE).nodup_iff).mpr hnd) (λ y hy=>hvt y (hpp.mem_iff.mp hy))
  have T3:=C2.trl.newrow (-l::x::VB)
  have N3:=C2.snd.newrow (c:=-l::x::VB) λ w hw=>by
   exact aH (Xu w hw) λ y hy hys=>(bY y ((hp'.cons (-l)).mem_iff.mpr hy) hys)
  have A3:=C2.asm.newrow (-l::x::VB)
  have W3:=hwt2.keep hgood
  have hxb:-x∈S.row.take b:=by
   exact cX (hmax x (.head _)) λ i a V c1=>(aL.mpr ⟨i,by exact ae bS (ae (if_pos (hlt c1)) a)⟩)
  refine aS (i9 S2 (-l::x::VB)) λ wch e8=>?_
  generalize hS3:iy S2 (-l::x::VB)=S3 at*
  have g1:S3.row=S.row.take b:=by exact ah e8 r1
  have g2:S3.begins=S.begins.take (md S x):=by exact ah e8 r2
  have g3:S3.rows=S.rows++[-l::x::VB]:=by exact ah e8 (((ah r6 rfl):S2.rows++_=_))
  have g4:S3.seen=b:=by exact ah e8 e3
  have g5:says S3 (-l)=none:=by exact ah e8 hsays
  have g6:S3.row.length=b:=by exact ah g1 (dt r1 hrl)
  have g7:fD S3.begins S3.row.length=fD S2.begins S2.row.length:=by exact ah g2 (ah g6 (dt r2 (ah hrl rfl)))
  refine ⟨⟨⟨T3.let_ g5 hv (λ k hk=>?_) (λ q=>?_) (λ V V=>⟨_,rfl⟩),N3.let_ (by exact ah g7 hu0),A3.let_ T3 (by exact ah g7 hu1)⟩,W3.same rfl rfl,λ i r hr=>?_,λ b' UU i r hr=>?_,λ b' UU =>?_,?_⟩,md S x,b,hb,hnb,g2,by exact ((ah g1 rfl):S3.row++[-l]=_),g4,by exact ((ah g3 (ah aA (aw _))):S3.rows.length<=_),by exact ((ah e8 f6):S3.log=_),by exact ((ah e8 f1):S3.heats=_),by exact ((ah e8 f2):S3.lock=_),by exact ((ah e8 f3):S3.limit=_),by exact ((ah e8 f4):S3.clashes=_),by exact ((ah e8 f5):S3.refuted=_)⟩
  ·have Uy:=sI hk;clear hk;subst Uy
   refine fV (-l::x::VB) (by exact ah g3 (u'.mpr (.inr ⟨rfl,rfl⟩))) (.head _) (λ y hy hne=>?_)
   refine ah g1 ?_
   rcases aM.mp hy with rfl | hy
   ·exact absurd rfl hne
   ·exact cX (hmax y hy) λ i a V c1=>(aL.mpr ⟨i,by exact ae bS (ae (if_pos (hlt c1)) a)⟩)
  ·replace q:=g2▸g6▸q;exact absurd q hnb
  ·have hr' :S3.rows[i]? =some r:=hr
   refine ((ah g1 (ah g4 ?_)):qa ((S3.row++[-l]).take S3.seen) (S3.row++[-l]) r);rewrite [htk b (aw _)]
   replace hr' :=g3▸hr'
   (try clear hr);rcases u'.mp hr' with hr' | ⟨_,rfl⟩
   ·exact (hold i r hr').mono (λ V h=>h) λ V h=>av _ h
   ·exact fN.mpr ⟨λ q=>absurd (by rwa [eh] at q) hlnot.1,λ V=>by simp⟩
  ·have UY :b' ∈S3.begins:=UU
   have hr' :S3.rows[i]? =some r:=hr
   replace UY :=g2▸UY
   refine ((ah g1 ?_):qa ((S3.row++[-l]).take b') ((S3.row++[-l]).take b') r);rewrite [htk b' (aG (hbelow b' UY))]
   replace hr' :=g3▸hr'
   (try clear hr);rcases u'.mp hr' with hr' | ⟨_,rfl⟩
   ·exact holdb b' UY i r hr'
   ·refine fN.mpr ⟨λ q=>?_,λ q=>absurd q (hbelow2 b' UY x rfl)⟩
    replace q:=(eh ..)▸q
    refine absurd ?_ hlnot.1
    have:S.row.take b' =(S.row.take b).take b' :=by exact ah i6 (ah (dW (aG (hbelow b' UY))) rfl)
    replace q:=this▸q
    exact cH _ _ q
  ·have UY :b' ∈S3.begins:=UU
   replace UY :=g2▸UY
   exact ((ah g4 (aG (hbelow b' UY))):b' <=S3.seen)
  ·exact ((ah g4 (ah aA (ah g6 (ax _ _)))):S3.seen<=(S3.row++[-l]).length)
end
section
structure D2(as:List Int)(S:SS):Prop where
 d1:∀(k b:Nat),S.begins[k]? =some b->k<=as.length+b
 d2:S.begins.length<=as.length+S.row.length
noncomputable def FV(as:List Int)(S:SS)(l:Int):Prop:=(as[S.begins.length]? =some l/\says S l≠some false)\/(as.length<=S.begins.length/\says S l=none)
theorem xl.begin_{W:(Nat->Bool)->Prop}(C:xl W S):xl W (S.uBegins (S.begins++[S.row.length])):=by
 have hlev:∀(i:Nat) (l:Int),S.row[i]? =some l->fD (S.begins++[S.row.length]) i=fD S.begins i:=λ i l hi=>ae (j6 ..) (ah (pn (bs:=[S.row.length]) (λ b hb=>ah (aq.mp hb) ((al.mp hi).1))) (ae (kG ..) rfl))
 exact ⟨C.c1,λ i l hi h0=>C.c2 i l hi (sV (hlev i l hi) h0),λ w h1 h2=>C.c4 w h1 λ i l hi h0=>h2 i l hi (((ae (hlev i l hi) h0):fD (S.begins++[S.row.length]) i=0))⟩
theorem uX{n k b:Nat}(h:(bs++[n])[k]? =some b):bs[k]? =some b\/(k=bs.length/\b=n):=by
 rcases bV k bs.length with q | q
 ·replace h:=cK q▸h;exact .inl h
 ·replace h:=c8 q▸h
  rcases d4 (k-bs.length) with e | e
  ·replace h:=e▸h;exact .inr ⟨Od q e,(bq h).symm⟩
  ·rewrite [bD (by simp;exact bB e)] at h;exact (bH h).elim
theorem KD{W:(Nat->Bool)->Prop}(L:Lv N W as S)(D:D2 as S)(hq:S.row.length<=S.seen)(hv:1<=l.natAbs/\l.natAbs<=N)(ht:FV as S l):
  Lv N W as (lp S l)/\D2 as (lp S l)/\(lp S l).begins.length=S.begins.length+1/\(∀i,qf S i=true->qf (lp S l) i=true)/\
  (lp S l).heats=S.heats/\(lp S l).lock=S.lock/\(lp S l).limit=S.limit/\(lp S l).clashes=S.clashes/\(lp S l).refuted=S.refuted/\(lp S l).log=S.log/\(lp S l).blamed=S.blamed/\(lp S l).rows=S.rows:=by
 obtain ⟨⟨T,C,A⟩,wt,wi,wb,bs,sl⟩:=L
 have hsn:S.seen=S.row.length:=a_ sl hq
 have hl0:l≠0:=λ e=>by replace hv:=e▸hv;simp at hv
 have T1:=T.begin_
 have C1:=C.begin_
 have hlev:∀(i:Nat),i<S.row.length->fD (S.begins++[S.row.length]) i=fD S.begins i:=λ i hi=>ae (j6 ..) (ah (pn (bs:=[S.row.length]) (λ b hb=>ah (aq.mp hb) hi)) (ae (kG ..) rfl))
 have hlevn:fD (S.begins++[S.row.length]) S.row.length=S.begins.length+1:=ae (nF T1.be) (ae aA (ah aW rfl))
 have hwi:∀(i:Nat) (r:List Int),S.rows[i]? =some r->qa S.row S.row r:=λ i r hr=>by
  have:=wi i r hr;replace this:=bn▸hsn▸this;exact this
 --what was assumed before
 have Ho:∀(k:Nat) (a:Int) (b:Nat),as[k]? =some a->S.begins[k]? =some b->a∈S.row.take (((S.begins++[S.row.length])[k+1]?).getD 0):=λ k a b ha hb=>by
  have:=A.d1 k a b ha hb
  have hkl:=(al.mp hb).1
  rcases bV (k+1) S.begins.length with q | q
  ·refine ah (cK q) (ah (aB q) ?_)
   replace this:=aB q▸this;exact this
  ·have e:k+1=S.begins.length:=a_ (bB hkl) q
   refine ah e (ah (c8 (aw _)) (ah (kF ..) ?_))
   replace this:=bD (aw _)▸e▸this;exact this
 have hd1' :∀(k:Nat) (b:Nat),S.begins[k]? =some b->∃b',(S.begins++[S.row.length])[k+1]? =some b' /\b' <=S.row.length:=λ k b hb=>by
  have hkl:=(al.mp hb).1
  have:k+1<(S.begins++[S.row.length]).length:=ah aA (ah aW (Nat.add_lt_add_right hkl _))
  exact bY _ (aB this) (T1.be _ (hO this))
 have hbb:∀(k b:Nat),(S.begins++[S.row.length])[k]? =some b->k<=as.length+b:=λ k b hb=>by
  rcases uX hb with h | ⟨h1,h2⟩
  ·exact D.d1 k b h
  ·have:=D.d2;exact N6 h1 h2 this
 unfold lp
 cases hs:says S l with
 | none=>
  have h1:says (S.uBegins (S.begins++[S.row.length])) l=none:=hs
  refine Ey ⟨⟨T1.let_ h1 hv (λ k hk=>(bH hk).elim) (λ V=>rfl) (λ q=>absurd (ak _ (.head _)) q),C1.let_ (λ q=>?_),⟨λ k a b ha hb=>?_,λ i x hi h0 w hw hA=>?_⟩⟩,wt.same rfl rfl,λ i r hr=>?_,λ b hb i r hr=>?_,λ b hb=>?_,?_⟩ ⟨hbb,?_⟩ ?_ (λ i hi=>?_) rfl rfl rfl rfl rfl rfl rfl rfl
  ·have q' :fD (S.begins++[S.row.length]) S.row.length=0:=q
   replace q' :=hlevn▸q';cases q'
  ·have UU :(S.begins++[S.row.length])[k]? =some b:=hb
   refine (?_:a∈(S.row++[l]).take (((S.begins++[S.row.length])[k+1]?).getD (S.row++[l]).length))
   clear h1 hb hl0 hs hv;rcases uX UU with h | ⟨rfl,rfl⟩
   ·refine aH (hd1' k b h) λ b' e Vh=>?_
    have:=Ho k a b ha h
    rw [e] at this⊢
    exact ((ah (dP Vh) this):a∈(S.row++[l]).take b')
   ·refine ah (bD (ah aA (ah aW (aw _)))) ?_
    refine ((ah bn ?_):a∈(S.row++[l]).take (S.row++[l]).length)
    rcases ht with ⟨q,_⟩ | ⟨q,_⟩
    ·replace ha:=q▸ha;clear q;have Uv:=sI ha;clear ha;subst Uv;simp
    ·replace ha:=bD q▸ha;exact (bH ha).elim
  ·have hi' :(S.row++[l])[i]? =some x:=hi
   have h0' :fD (S.begins++[S.row.length]) i<=as.length:=h0
   clear h0 h1 hi hl0 hs hv;rcases rn hi' with q | ⟨rfl,rfl⟩
   ·replace h0' :=hlev i (al.mp q).1▸h0'
    exact A.d2 i x q h0' w hw hA
   ·replace h0' :=hlevn▸h0'
    rcases ht with ⟨q,_⟩ | ⟨q,_⟩
    ·exact hA _ (am q)
    ·exact absurd h0' (Gf.mpr (bO q))
  ·exact ((ah (dP sl) ((wi i r hr).mono (λ V h=>h) λ V h=>av _ h)):qa ((S.row++[l]).take S.seen) (S.row++[l]) r)
  ·have UU :b∈S.begins++[S.row.length]:=hb
   have Vh:=T1.be b UU
   refine ((ah (dP Vh) ?_):qa ((S.row++[l]).take b) ((S.row++[l]).take b) r)
   rcases az.mp UU with h | h
   ·exact wb b h i r hr
   ·exact ah (aq.mp h) (ah bn (hwi i r hr))
  ·have UU :b∈S.begins++[S.row.length]:=hb
   exact ac (T1.be b UU) hq
  ·exact ((ah aA (ac sl (ax _ _))):S.seen<=(S.row++[l]).length)
  ·refine (?_:(S.begins++[S.row.length]).length<=as.length+(S.row++[l]).length)
   have:=D.d2
   rw [aA,aA,aW,aW];exact bA this _
  ·exact ((ae aA (ah aW rfl)):(S.begins++[S.row.length]).length=_)
  ·refine aP (jL.mp hi) λ a b=>(jL.mpr ⟨?_,?_⟩)
   ·exact ((ah aA (bz a (aK _))):i<(S.row++[l]).length)
   ·exact ((gk az (gk aq (λ h=>h.elim b λ h=>bP a h))):i∉S.begins++[S.row.length])
 | some tr=>
  (try clear hv);rcases ht with ⟨ha0,hnf⟩ | ⟨_,q⟩
  ·have htr:tr=true:=by
    cases tr with
    | true=>rfl
    | false=>exact absurd hs hnf
   replace hs:=htr▸hs
   have hlm:=(T.tr.mem_true hl0).mp hs
   have hlt:S.begins.length<as.length:=(al.mp ha0).1
   refine Ey ⟨⟨T1,C1,⟨λ k a b ha hb=>?_,λ i x hi h0 w hw hA=>?_⟩⟩,wt.same rfl rfl,wi,λ b hb i r hr=>?_,λ b hb=>?_,sl⟩ ⟨hbb,?_⟩ ?_ (λ i hi=>?_) rfl rfl rfl rfl rfl rfl rfl rfl
   ·have UU :(S.begins++[S.row.length])[k]? =some b:=hb
    refine (?_:a∈S.row.take (((S.begins++[S.row.length])[k+1]?).getD S.row.length))
    clear hb hl0 hnf hs;rcases uX UU with h | ⟨rfl,rfl⟩
    ·refine aH (hd1' k b h) λ b' e Vh=>?_
     have:=Ho k a b ha h
     rw [e] at this⊢;exact this
    ·refine ah (bD (ah aA (ah aW (aw _)))) ?_
     refine ((ah bn ?_):a∈S.row.take S.row.length)
     replace ha:=ha0▸ha;clear ha0;have Uy:=sI ha;clear ha;subst Uy;exact hlm
   ·have hi' :S.row[i]? =some x:=hi
    have h0' :fD (S.begins++[S.row.length]) i<=as.length:=h0
    replace h0' :=hlev i (al.mp hi').1▸h0'
    exact A.d2 i x hi' h0' w hw hA
   ·have UU :b∈S.begins++[S.row.length]:=hb
    rcases az.mp UU with h | h
    ·exact wb b h i r hr
    ·exact ah (aq.mp h) (((ah bn (hwi i r hr)):qa (S.row.take S.row.length) (S.row.take S.row.length) r))
   ·have UU :b∈S.begins++[S.row.length]:=hb
    exact ac (T1.be b UU) hq
   ·exact ((ah aA (ah aW (ac (bB hlt) (ax _ _)))):(S.begins++[S.row.length]).length<=as.length+S.row.length)
   ·exact ((ae aA (ah aW rfl)):(S.begins++[S.row.length]).length=_)
   ·exact aP (jL.mp hi) λ a b=>(jL.mpr ⟨a,(((gk az (gk aq (λ h=>h.elim b λ h=>bP a h))):i∉S.begins++[S.row.length]))⟩)
  ·replace q:=hs▸q;exact (hV q).elim
noncomputable def wA(S:SS):Nat->Bool:=λ v=>(lk S.known (v:Int)).getD false
theorem G7(h:says S l=some true):iI (wA S) l=true:=by
 unfold says at h
 unfold iI wA
 cases e:lk S.known l.natAbs with
 | none=>replace h:=e▸h;exact (bH h).elim
 | some b=>replace h:=e▸h;exact bq h
theorem Hu{W:(Nat->Bool)->Prop}(L:Lv N W as S)(hq:S.row.length<=S.seen)(hk:∀v:Int,1<=v->v<=N->(lk S.known v).isSome)(ha:as.length<=S.begins.length):W (wA S)/\∀a∈as,iI (wA S) a=true:=by
 have T:=L.cr.trl
 have hsn:S.seen=S.row.length:=by have:=L.sl;exact a_ this hq
 have hm:∀l∈S.row,iI (wA S) l=true:=λ l h=>G7 (T.tr.true_ h)
 refine ⟨L.cr.snd.c4 _ (λ r hr=>?_) (λ i l hi V=>hm l (am hi)),λ a h=>?_⟩
 ·refine aS (aL.mp hr) λ i hi=>?_
  have hg:=L.wt.w1 i r hi
  have hw:=L.wi i r hi
  replace hw:=bn▸hsn▸hw
  match r,hg with
  | x::y::t,hg=>
   have hx:=hg.2.2 x (.head _)
   rcases T.tr.cases (l:=x) (nz hx) with ⟨_,q⟩ | ⟨_,q⟩ | ⟨q,_,_⟩
   ·exact bY x (.head _) (hm x q)
   ·exact bY y (.tail _ (.head _)) (hm y ((fN.mp hw).1 q))
   ·have:=hk x.natAbs (bU.mpr hx.1) (bU.mpr hx.2)
    unfold says at q
    cases e:lk S.known x.natAbs with
    | none=>replace this:=e▸this;exact (iP this).elim
    | some b=>replace q:=e▸q;exact (hV q).elim
 ·refine aS (aL.mp h) λ k hk' =>?_
  have hlt:=(al.mp hk').1
  have:=L.cr.asm.d1 k a _ hk' (aB (ai hlt ha))
  exact hm a (cH _ _ this)
theorem G6{W:(Nat->Bool)->Prop}(L:Lv N W as S)(h:as[S.begins.length]? =some l)(h0:l≠0)(hs:says S l=some false):∀w,W w->∃a∈as,iI w a=false:=λ w hw=>by
 refine cS λ hn=>?_
 have hA:∀a∈as,iI w a=true:=λ a ha=>by
  cases e:iI w a with
  | true=>rfl
  | false=>exact absurd ⟨a,ha,e⟩ hn
 refine aS (aL.mp ((L.cr.trl.tr.mem_false h0).mp hs)) λ i hi=>?_
 have hlt:=(al.mp h).1
 have:=L.cr.asm.d2 i _ hi (by have:=qj S.begins i;exact aG (au this hlt)) w hw hA
 exact nA h0 (hA l (am h)) this
theorem JQ{W:(Nat->Bool)->Prop}(P:PS N W as S0 S i):∀b∈S.begins,b+2<=S.row.length:=λ b hb=>by
 refine cX P.cl λ r hr hx UB=>(gJ UB λ j l hj hl hv=>?_);clear UB
 have T:=P.cr.trl
 have hjl:=(al.mp hj).1
 have hbj:b<=j:=by
  rcases bV j b with q | q
  ·have:=tQ hb q
   have:=qj S.begins b;lia
  ·exact q
 refine b0 λ hlt=>?_
 have e:b=j:=N5 hlt hjl hbj
 have hlast:S.row.length=b+1:=a_ (ac (ac (aw _) (aw _)) (aQ hlt)) (bB (au hbj hjl))
 have hg:=P.wt.w1 i r hr
 have hwi:=P.wb b hb i r hr
 match r,hg with
 | x::y::t,hg=>
  have Xi:=hg.2.2 x (.head _)
  have hyv:=hg.2.2 y (.tail _ (.head _))
  have hxy:=hg.ne (i:=0) (j:=1) (x:=x) (y:=y) rfl rfl (by decide)
  have mx:=hx x (.head _)
  have my:=hx y (.tail _ (.head _))
  have split_:∀z:Int,z∈S.row->z∈S.row.take b\/S.row[b]? =some z:=λ z hz=>by
   clear hb hbj hlast hwi;refine aS (aL.mp hz) λ k hk=>?_
   have:=(al.mp hk).1
   rcases bV k b with q | q
   ·exact .inl (aL.mpr ⟨k,ae bS (ae (if_pos q) hk)⟩)
   ·have:k=b:=NY hlt this q
    clear e hlt q;subst this;exact .inr hk
  refine aP (fN.mp hwi) λ w1 w2=>?_
  rcases split_ _ mx with q | q
  ·exact T.tr.not_both (l:=y) (nz hyv) (cH _ _ (w1 q)) my
  ·rcases split_ _ my with q' | q'
   ·exact T.tr.not_both (l:=x) (nz Xi) (cH _ _ (w2 q')) mx
   ·replace q' :=q▸q'
    have:=bq q'
    exact NX this hxy
end
section
structure Iv(N:Nat)(W:(Nat->Bool)->Prop)(as:List Int)(c0 bud:Nat)(S:SS):Prop where
 hk:HK N S.heats
 lock:S.lock=none
 lim:S.limit=0
 bl:S.blamed=[]
 lo:c0<=S.clashes
 up:S.clashes<=c0+16
 b1:S.rows.length+c0<=bud+S.clashes
 b2:S.log.length+c0<=bud+S.clashes
 trl:nR N S
 wt:mu N S 0 []
 dead:S.refuted=true->∀w,¬W w
 live:S.refuted=false->Lv N W as S/\D2 as S/\S.clashes<=c0+val (qf S) (N-1)
structure OT(N:Nat)(W:(Nat->Bool)->Prop)(as:List Int)(bud:Nat)(S:SS)(b:Bool):Prop where
 hk:HK N S.heats
 lock:S.lock=none
 lim:S.limit=0
 b1:S.rows.length<=bud+16
 b2:S.log.length<=bud+17
 trl:nR N S
 wt:mu N S 0 []
 dead:S.refuted=true->∀w,¬W w
 live:S.refuted=false->Lv N W as S
 bl:as=[]->S.blamed=[]
 tru:b=true->S.refuted=false/\W (wA S)/\∀a∈as,iI (wA S) a=true
 fls:b=false->∀w,W w->∃a∈as,iI w a=false
 ref:b=false->as=[]->S.refuted=true
noncomputable def wy(N:Nat)(as:List Int)(S:SS):Nat:=if S.refuted=true then 0 else (16-val (qf S) (N-1))*(as.length+N+2)+(as.length+N+1-S.begins.length)
theorem C8(hN:N<=5)(f:Nat->Bool):val f (N-1)<16:=by
 have:=C7 f (N-1)
 have h:N-1<=4:=oQ hN
 have:2^(N-1)<=2^4:=fG (dN _) h
 lia
theorem DR(h:a<b)(hx:x<=B):a*(B+1)+x<b*(B+1)+y:=by
 have:(a+1)*(B+1)<=b*(B+1):=oR _ h
 replace this:=(Nat.add_mul ..)▸this
 exact NW this hx
theorem Lv.gain{W:(Nat->Bool)->Prop}(L:Lv N W as S)(e1:S'.known=S.known)(e2:S'.heights=S.heights)(e3:S'.causes=S.causes)(e4:S'.row=S.row)(e5:S'.begins=S.begins)(e6:S'.rows=S.rows)(e7:S'.watch=S.watch)(e8:S'.seen=S.seen):Lv N W as S' :=by
 obtain ⟨cr,wt,wi,wb,bs,sl⟩:=L
 exact ⟨cr.turn e1 e2 e3 e4 e5 ⟨ah e6 rfl,λ c r h=>⟨r,ah e6 h,.refl _⟩⟩,wt.same e6 e7,ah e6 (ah e4 (ah e8 wi)),ah e6 (ah e4 (ah e5 wb)),ah e5 (ah e8 bs),ah e4 (ah e8 sl)⟩
theorem G9(D:D2 as S)(T:nR N S):S.begins.length<=as.length+N:=by
 have:=D.d2;have:=T.len;lia
theorem uA(h0:S.refuted=false)(hN:N<=5)(h:S'.refuted=true\/(val (qf S) (N-1)<val (qf S') (N-1))\/(val (qf S) (N-1)<=val (qf S') (N-1)/\S.begins.length<S'.begins.length/\S.begins.length<=as.length+N)):wy N as S' <wy N as S:=by
 have e:wy N as S=(16-val (qf S) (N-1))*(as.length+N+2)+(as.length+N+1-S.begins.length):=by
  unfold wy;exact ae (if_neg (by exact ah h0 c9)) rfl
 refine ah e ?_
 unfold wy
 have hv:=C8 hN (qf S)
 have hv' :=C8 hN (qf S')
 have hbig:0<(16-val (qf S) (N-1))*(as.length+N+2):=Nat.mul_pos (lE hv) (dN _)
 refine eC (λ V=>?_) λ q=>?_
 ·exact ai hbig (ax _ _)
 ·rcases h with h | h | ⟨h1,h2,h3⟩
  ·exact absurd h q
  ·exact DR (B:=as.length+N+1) (d9 hv h) (eE _ _)
  ·have:(16-val (qf S') (N-1))*(as.length+N+2)<=(16-val (qf S) (N-1))*(as.length+N+2):=oR _ (CN h1 16)
   exact vB this (d9 (bO h3) h2)
theorem re.val(K:re S0 S)(n:Nat):val (qf S0) n<=val (qf S) n:=aS K.row λ t ht=>(uf n λ i V h=>(aP (jL.mp h) λ a b=>(jL.mpr ⟨ah ht (ah aA (ai a (ax _ _))),ah K.begins b⟩)))
theorem re.d2(K:re S0 S)(D:D2 as S0):D2 as S:=aS K.row λ t ht=>⟨ah K.begins D.d1,by refine ah K.begins (ah ht (ah aA ?_));have:=D.d2;exact ac this (aJ (ax _ _) _)⟩
theorem HK.same(H:HK N h)(e:h'.map (·.1)=h.map (·.1)):HK N h' :=λ k=>ah e (H k)
theorem Dq{W:(Nat->Bool)->Prop}(hN:N<=5)(V0:bud<=30000)(haz:as.length<=1000)(Vc:∀l∈as,1<=l.natAbs/\l.natAbs<=N):
  AM as c0 (λ S k=>Iv N W as c0 bud S/\k=wy N as S) (λ S b=>OT N W as bud S b) where
 refd S k:=by
  intro Uv hr;refine aP Uv λ I UC=>?_;clear Uv;subst UC
  have h1:=I.up;have h2:=I.b1;have h3:=I.b2
  exact ⟨I.hk,I.lock,I.lim,Jb h2 h1,ac (Jb h3 h1) (gm _),I.trl,I.wt,I.dead,(λ h=>by replace h:=hr▸h;exact (v8 h).elim),λ V=>I.bl,(λ h=>(iP h).elim),λ V w hw=>absurd hw (I.dead hr w),λ V V=>hr⟩
 turn S k:=by
  intro Uy hF hr;refine aP Uy λ I UF=>?_;clear Uy;subst UF
  refine ck (I.live hr) λ L D hc=>?_
  have hv:=C8 hN (qf S)
  have hlo:=I.lo;have hb1:=I.b1;have Xc:=I.b2
  refine t6 (JS N W as S) (MS N W as S) (PS N W as S) (Bg (ac hN (af _ _)) (NV hb1 hv hc V0)) L.js (λ S' i P hF' =>?_) (λ S' J hF' hq=>?_)
  ·have K:=P.kp
   have T:=P.cr.trl
   have hkv:=K.val (N-1)
   have hcl:=K.clashes
   have hS'k:HK N S'.heats:=ah K.heats I.hk
   refine Ky (Rx N W S') (Le N W S') (λ hne=>⟨BD (ac hN (af _ _)) P.cr P.wt.w1 hS'k hne,BE P⟩) (λ t ht=>ht.ok (ac hN (af _ _)) T) (ae K.lock I.lock) T.tr (by refine ah K.log ?_;exact Et Xc hv hc V0) (by refine ah K.rows ?_;exact Et hb1 hv hc V0) (P.wt.wz (by refine ah K.rows ?_;exact NU hb1 hv hc V0)) (by have:=T.len;exact Ji hN this) (λ h0=>?_) (λ hne S₁ t d c τ g ht hH hd hcO hp hs=>?_)
   ·--a clash without a level
    have hno:∀w,¬W w:=λ w hw=>by
     refine cX P.cl λ r hr' hx V=>(aH (P.cr.snd.c1 r (am hr') w hw) λ x h1 h2=>(aS (aL.mp (hx x h1)) λ j hj=>?_))
     have:=P.cr.snd.c2 j _ hj (by exact ah h0 rfl) w hw
     exact nA (λ e=>T.nz (am hj) (by exact ah e rfl)) h2 this
    have T2:nR N (ph (S'.uClashes (S'.clashes+1))):=T.turn rfl rfl rfl rfl rfl λ c r h=>⟨r,h,λ V=>o_⟩
    refine fV _ (uA hr hN (.inl rfl)) ⟨hS'k,by exact ((ae K.lock I.lock):S'.lock=none),by exact ((ae K.limit I.lim):S'.limit=0),by exact ((ae K.blamed I.bl):S'.blamed=[]),by refine (?_:c0<=S'.clashes+1);exact GE (xc hcl hlo),by refine (?_:S'.clashes+1<=_);exact NT hv hcl hc,?_,?_,T2,P.wt.same rfl rfl,λ V=>hno,λ h=>by exact (v8 h).elim⟩ rfl
    ·refine ((ah K.rows ?_):S'.rows.length+c0<=bud+(S'.clashes+1));exact NR hb1 hcl
    ·refine (?_:(S'.log++[[]]).length+c0<=bud+(S'.clashes+1))
     refine ah aA (ah K.log (ah aW ?_));exact NQ Xc hcl
   ·refine cu hH λ hs' g' W' UB=>?_;clear hH;subst UB
    dsimp only at W'
    have C1:Cr N W as (((S'.uClashes (S'.clashes+1)).uHeats hs').uGain g'):=P.cr.turn rfl rfl rfl rfl rfl ⟨rfl,λ c r h=>⟨r,h,.refl _⟩⟩
    obtain ⟨L2,h,b,G⟩:=DY (c:=c) C1 (P.wt.same rfl rfl) P.wb hne ⟨ht.ex,ht.nd,ht.sem⟩ hd hp hs
    have htwo:=JQ P
    clear hp hs;generalize hS2:mT (((S'.uClashes (S'.clashes+1)).uHeats hs').uGain g') d c τ=S2 at*
    have e1:S'.begins[h]? =some b:=G.hb
    have e2:S2.begins=S'.begins.take h:=G.begins
    have e3:S2.row=S'.row.take b++[d]:=G.row
    have e4:b∉S'.begins.take h:=G.nb
    have e5:S2.rows.length<=S'.rows.length+1:=G.rows
    have e6:S2.log=S'.log++[c]:=G.log
    have e7:S2.heats=hs' :=G.heats
    have e8:S2.lock=S'.lock:=G.lock
    have e9:S2.limit=S'.limit:=G.limit
    have e10:S2.clashes=S'.clashes+1:=G.clashes
    have e11:S2.refuted=S'.refuted:=G.refuted
    have hbm:b∈S'.begins:=am e1
    have YI :=htwo b hbm
    have hrl:=T.len
    have hbrl:(S'.row.take b).length=b:=by refine ae bL ?_;exact NP YI
    have hgrow:val (qf S') (N-1)<val (qf S2) (N-1):=by
     refine vW (b:=b) (N-1) (by exact Cy (ac YI hrl)) (λ i hi hf=>?_) ?_ ?_
     ·refine aP (jL.mp hf) λ a1 a2=>?_
      exact jL.mpr ⟨by refine ah e3 (ah aA (ah hbrl ?_));exact NO hi,by refine ah e2 ?_;exact λ q=>a2 (cH _ _ q)⟩
     ·unfold qf;simp [hbm]
     ·exact jL.mpr ⟨by refine ah e3 (ah aA (ah hbrl ?_));simp,by refine ah e2 ?_;exact e4⟩
    have hD:=K.d2 D
    have hbl2:S2.blamed=S'.blamed:=by
     refine dt hS2 ?_
     unfold mT
     clear hS2;cases τ with
     | nil=>exact (jb _ _).2.2.2.2.2.2.1
     | cons x VB =>
      refine aS (i9 (cP ((((S'.uClashes (S'.clashes+1)).uHeats hs').uGain g').uLog (S'.log++[c])) (md (((S'.uClashes (S'.clashes+1)).uHeats hs').uGain g') x)) (d::x::VB)) λ w ew=>?_
      refine (?_:(iy _ _).blamed=_)
      dsimp only
      refine ah ew ?_;exact (jb _ _).2.2.2.2.2.2.1
    refine fV _ (uA hr hN (.inr (.inl (show val (qf S) (N-1)<val (qf (S2.uGain g)) (N-1) from ?_)))) ⟨?_,by refine (?_:S2.lock=none);refine ae e8 (ae K.lock ?_);exact I.lock,by refine (?_:S2.limit=0);refine ae e9 (ae K.limit ?_);exact I.lim,by refine (?_:S2.blamed=[]);refine ae hbl2 (ae K.blamed ?_);exact I.bl,by refine (?_:c0<=S2.clashes);exact NM e10 hcl hlo,by refine (?_:S2.clashes<=_);exact NL hv e10 hcl hc,?_,?_,?_,L2.wt.same rfl rfl,λ h=>?_,λ V=>⟨L2.gain rfl rfl rfl rfl rfl rfl rfl rfl,⟨λ k b' UU =>?_,?_⟩,?_⟩⟩ rfl
    ·exact au hkv hgrow
    ·refine (?_:HK N S2.heats)
     refine ah e7 ?_;exact hS'k.same W'
    ·refine (?_:S2.rows.length+c0<=bud+S2.clashes)
     have:=K.rows;exact NK hb1 e10 hcl this e5
    ·refine (?_:S2.log.length+c0<=bud+S2.clashes)
     refine ah e6 (ah aA (ah K.log (ah aW ?_)));exact NJ Xc e10 hcl
    ·exact (L2.gain (S' :=(S2.uGain g)) rfl rfl rfl rfl rfl rfl rfl rfl).cr.trl
    ·have:S2.refuted=true:=h
     replace this:=hr▸K.refuted▸e11▸this;exact (iP this).elim
    ·have UY :S2.begins[k]? =some b' :=UU
     replace UY :=bS▸e2▸UY
     split at UY
     ·exact hD.d1 k b' UY
     ·exact (bH UY).elim
    ·refine (?_:S2.begins.length<=as.length+S2.row.length)
     refine ah e2 (ah e3 (ah aA (ah hbrl (ah bL ?_))))
     have:=hD.d1 h b e1
     have h2:=aW (a:=d)
     exact NI this
    ·refine (?_:S2.clashes<=c0+val (qf S2) (N-1))
     exact NH hgrow e10 hcl hc hkv
  ·--deciding
   have K:=J.kp
   have T:=J.cr.trl
   have Yl :=J.lv
   have hkv:=K.val (N-1)
   have hcl:=K.clashes
   have hS'k:HK N S'.heats:=by refine ah K.heats ?_;exact I.hk
   have hD:=K.d2 D
   have hbb:=G9 hD T
   have hlim:S'.limit=0:=by refine ae K.limit ?_;exact I.lim
   have hlock:S'.lock=none:=by refine ae K.lock ?_;exact I.lock
   have hrf:S'.refuted=false:=by refine ae K.refuted ?_;exact hr
   have next:∀l,1<=l.natAbs/\l.natAbs<=N->FV as S' l->∃k',k' <wy N as S/\Iv N W as c0 bud (lp S' l)/\k' =wy N as (lp S' l):=λ l hl ht=>by
    refine KC (KD Yl hD hq hl ht) λ L2 D2' g1 g2 g3 g4 g5 g6 g7 g8 g9 g10=>?_
    have hv2:val (qf S') (N-1)<=val (qf (lp S' l)) (N-1):=uf _ λ i V=>g2 i
    refine fV _ (uA hr hN (.inr (.inr ⟨ac hkv hv2,by refine ah g1 (ah K.begins ?_);exact aK _,by refine dt K.begins ?_;exact hbb⟩))) ⟨by refine ah g3 ?_;exact hS'k,by refine ae g4 ?_;exact hlock,by refine ae g5 ?_;exact hlim,by refine ae g9 (ae K.blamed ?_);exact I.bl,by refine ah g6 ?_;exact xc hcl hlo,by refine ah g6 ?_;exact NG hv hcl hc,by refine ah g10 (ah g6 (ah K.rows ?_));exact Jh hb1 hcl,by refine ah g8 (ah g6 (ah K.log ?_));exact Jh Xc hcl,L2.cr.trl,L2.wt,λ h=>(by replace h:=hrf▸g7▸h;exact (iP h).elim),λ V=>⟨L2,D2',by refine ah g6 ?_;exact NF hcl hc hkv hv2⟩⟩ rfl
   refine ⟨by exact xc hcl hlo,by exact ND hv hcl hc,hlim,hlock,λ k hk=>((hS'k k).mp hk).1,by have:=T.len;exact Ji hN this,by exact NB hbb haz hN,by refine ah K.log ?_;exact Et Xc hv hc V0,haz,λ l hl=>by have:=Vc l hl;exact MD this hN,λ l hl=>⟨λ hs=>?_,λ hs=>?_⟩,λ Xa=>⟨λ hall=>?_,λ v hv hn l hl=>?_⟩⟩
   ·have hlm:=am hl
    have hlr:=Vc l hlm
    have hno:=G6 Yl hl (by exact nz hlr) hs
    have hae:as≠[]:=λ e=>by replace hlm:=e▸hlm;cases hlm
    refine dn ⟨λ x hx=>?_,λ x hx=>?_,by have:=T.len;exact NA hN this⟩ (λ V=>?_) (λ V c hcO=>?_)
    ·refine aS (aL.mp hx) λ i hi=>?_
     refine ah (T.ht i x hi) ?_;rfl
    ·refine aS (aL.mp hx) λ i hi=>?_
     refine cX (T.ca i x hi) λ o h1 h2 V=>?_
     refine bY o h1 (λ c hc=>?_)
     refine aH (h2 c hc) λ r h3 V=>?_
     have hg:=J.wt.w1 c r h3
     exact bY r h3 (by have:=pb hg.2.1 hg.2.2;exact Nz hN this)
    ·exact ⟨hS'k,hlock,hlim,by refine (?_:S'.rows.length<=_);refine ah K.rows ?_;exact Es hb1 hv hc,by refine (?_:S'.log.length<=_);refine ah K.log ?_;exact Jg Xc hv hc,T.turn rfl rfl rfl rfl rfl λ c r h=>⟨r,h,λ V=>o_⟩,J.wt.same rfl rfl,λ h=>(by have:S'.refuted=true:=h;replace this:=hrf▸this;exact (iP this).elim),λ V=>Yl.gain rfl rfl rfl rfl rfl rfl rfl rfl,λ e=>absurd e hae,λ h=>(by exact (iP h).elim),λ V=>hno,λ V e=>absurd e hae⟩
    ·exact ⟨hS'k,hlock,hlim,by refine (?_:S'.rows.length<=_);refine ah K.rows ?_;exact Es hb1 hv hc,by refine (?_:(S'.log++[c]).length<=_);refine ah aA (ah K.log (ah aW ?_));exact Ny Xc hv hc,T.turn rfl rfl rfl rfl rfl λ c r h=>⟨r,h,λ V=>o_⟩,J.wt.same rfl rfl,λ h=>(by have:S'.refuted=true:=h;replace this:=hrf▸this;exact (iP this).elim),λ V=>Yl.gain rfl rfl rfl rfl rfl rfl rfl rfl,λ e=>absurd e hae,λ h=>(by exact (iP h).elim),λ V=>hno,λ V e=>absurd e hae⟩
   ·exact next l (Vc l (am hl)) (.inl ⟨hl,hs⟩)
   ·have hm:=Hu Yl hq (λ v h1 h2=>hall v ((hS'k v).mpr ⟨h1,h2⟩)) Xa
    exact ⟨hS'k,hlock,hlim,by refine ah K.rows ?_;exact Es hb1 hv hc,by refine ah K.log ?_;exact Jg Xc hv hc,T,J.wt,λ h=>(by replace h:=hrf▸h;exact (iP h).elim),λ V=>Yl,λ V=>by refine ae K.blamed ?_;exact I.bl,λ V=>⟨hrf,hm⟩,(λ h=>by exact (v8 h).elim),λ h=>by exact (v8 h).elim⟩
   ·have hvr:=(hS'k v).mp hv
    have hl' :1<=l.natAbs/\l.natAbs<=N:=by clear hn hv;rcases hl with rfl | rfl<;>lia
    refine next l hl' (.inr ⟨Xa,?_⟩)
    have:(l.natAbs:Int)=v:=by clear hn hv;rcases hl with rfl | rfl<;>lia
    unfold says
    refine ah this (ah hn ?_);rfl
end
section
structure Rs(N:Nat)(W:(Nat->Bool)->Prop)(bud:Nat)(S:SS):Prop where
 hk:HK N S.heats
 lock:S.lock=none
 lim:S.limit=0
 b1:S.rows.length<=bud
 b2:S.log.length<=bud
 trl:nR N S
 wt:mu N S 0 []
 dead:S.refuted=true->∀w,¬W w
 live:S.refuted=false->∃as,Lv N W as S
theorem OT.rs{W:(Nat->Bool)->Prop}(F:OT N W as bud S b):Rs N W (bud+17) S:=
 ⟨F.hk,F.lock,F.lim,ac F.b1 (gm _),F.b2,F.trl,F.wt,F.dead,λ h=>⟨as,F.live h⟩⟩
theorem rJ(H:HK N hs):∀(ls:List Int),(∀l∈ls,1<=l.natAbs/\l.natAbs<=N)->ls.foldl CD hs=hs
 | [],_=>rfl
 | l::ls,h=>by
  have hl:=h l (.head _)
  have:CD hs l=hs:=by
   unfold CD;exact ah (if_pos (qP.mpr ((H _).mpr (bt (bU.mpr hl.1) (bU.mpr hl.2))))) rfl
  exact ae fC (ah this (rJ H ls λ x hx=>h x (.tail _ hx)))
theorem qp(h:S.begins=[])(k:Nat):cP S k=S:=kc (ah h rfl)
theorem oM(S:SS):(cP S 0).begins=[]:=by
 cases h:S.begins with
 | nil=>rewrite [qp h];exact h
 | cons b bs=>
  unfold cP
  exact ah h rfl
theorem Lv.back0{W:(Nat->Bool)->Prop}(L:Lv N W as S)(as' :List Int):Lv N W as' (cP S 0):=by
 have Wl:=oM S
 have T:=L.cr.trl.back 0
 have C:=L.cr.snd.back L.cr.trl 0
 have hw:=(jb S 0).2.2.2.2.2.2.2
 refine ⟨⟨T,C,xE.zero Wl C⟩,L.wt.same hw.1 hw.2,?_,ah Wl (λ b hb=>(by cases hb)),ah Wl (λ b hb=>(by cases hb)),?_⟩
 ·cases h:S.begins with
  | nil=>rewrite [qp h];exact L.wi
  | cons b bs=>
   have hb:S.begins[0]? =some b:=ah h rfl
   refine t8 (lu hb (L.cr.trl.be b (ah h (.head _)))) λ e1 e2 e3 e4 e5 e6 e7=>?_
   refine ah e1 (ah e3 (ah e6 ?_))
   intro i r hr
   exact ah i6 (ah (zr ..) (L.wb b (ah h (.head _)) i r hr))
 ·cases h:S.begins with
  | nil=>rewrite [qp h];exact L.sl
  | cons b bs=>
   have hb:S.begins[0]? =some b:=ah h rfl
   have Vh:=L.cr.trl.be b (ah h (.head _))
   refine t8 (lu hb Vh) λ e1 e2 e3 e4 e5 e6 e7=>(ah e1 (ah e3 (ah bL ?_)));exact Nx Vh
theorem Rs.ask{W:(Nat->Bool)->Prop}(R:Rs N W bud S)(as:List Int)(Vc:∀l∈as,1<=l.natAbs/\l.natAbs<=N):Iv N W as S.clashes bud (((cP S 0).uBlamed []).uHeats (as.foldl CD S.heats)):=by
 refine EA (jb S 0) λ f1 f2 f3 f4 f5 f6 f7 f8 f9=>?_
 have Wl:=oM S
 refine ah (rJ R.hk as Vc) ?_
 have h1:=R.b1;have h2:=R.b2
 refine ⟨R.hk,f2.trans R.lock,f3.trans R.lim,rfl,aC f4.symm,((ac (aC f4) (ax _ _)):(cP S 0).clashes<=_),by refine ((ah f8 ?_):(cP S 0).rows.length+_<=bud+(cP S 0).clashes);exact cG h1 (aC f4.symm),by refine ((ah f6 ?_):(cP S 0).log.length+_<=bud+(cP S 0).clashes);exact cG h2 (aC f4.symm),(R.trl.back 0).turn rfl rfl rfl rfl rfl λ c r h=>⟨r,h,λ V=>o_⟩,R.wt.same f8 f9,λ h=>R.dead (f5.symm.trans h),λ h=>?_⟩
 refine aS (R.live (f5.symm.trans h)) λ as0 L=>(dn ((L.back0 as).gain rfl rfl rfl rfl rfl rfl rfl rfl) ⟨λ k b hb=>?_,?_⟩ ?_)
 ·have UU :(cP S 0).begins[k]? =some b:=hb
  replace UU :=Wl▸UU;simp at UU
 ·exact ((ah Wl (a0 _)):(cP S 0).begins.length<=_)
 ·exact ((ac (aC f4) (ax _ _)):(cP S 0).clashes<=S.clashes+_)
theorem JZ{ls:List Int}(h:ls.Pairwise λ x y=>y≠-x)(hx:x∈ls)(hy:y∈ls)(hne:x≠y):y≠-x:=by
 refine aS (aL.mp hx) λ i hi=>?_
 (try clear hx);refine aS (aL.mp hy) λ j hj=>?_
 (try clear hx);obtain ⟨Zh,hi2⟩:=al.mp hi
 (try clear hx);obtain ⟨XG,hj2⟩:=al.mp hj
 (try clear hx);rcases lF i j with q | q | q
 ·have:=(cW.mp h) i j Zh XG q
  rwa [hi2,hj2] at this
 ·clear hi2 hj2;subst q;replace hj:=hi▸hj;clear hi;have Uv:=sI hj;clear hj;subst Uv;exact absurd rfl hne
 ·have:=(cW.mp h) j i XG Zh q
  replace this:=hj2▸hi2▸this
  exact Nw this
theorem GY{ls c:List Int}(h:ls.Pairwise λ x y=>y≠-x)(O:vk ls c):(c.map bE).Nodup:=by
 have hn:=O.1
 unfold gp at hn⊢
 refine gk cE (hn.imp_of_mem λ{a b} ha hb hne e=>?_)
 have:=JZ h ((O.2.1 a).mp ha) ((O.2.1 b).mp hb) hne
 rcases natAbs_eq e with q | q
 ·exact hne q
 ·exact Nv e this hne
theorem Ka{ls:List Int}(h:¬ls.Pairwise λ x y=>y≠-x)(w:Nat->Bool)(h0:∀l∈ls,l≠0):∃x∈ls,iI w x=true:=by
 refine cS λ hn=>h ?_
 have hf:∀x∈ls,iI w x=false:=λ x hx=>by
  cases e:iI w x with
  | false=>rfl
  | true=>exact absurd ⟨x,hx,e⟩ hn
 have:ls.Pairwise λ x y=>x∈ls/\y∈ls:=cW.mpr λ i j hi hj V=>⟨hO hi,hO hj⟩
 refine this.imp λ{x y} hxy e=>?_
 have h1:=hf x hxy.1
 have h2:=hf y hxy.2
 replace h2:=h1▸um (h0 x hxy.1)▸e▸h2;exact (v8 h2).elim
theorem Rs.add{W:(Nat->Bool)->Prop}(hN:N<=60)(hb:bud<=40000)(R:Rs N W bud S)(hz:ls.length<60)(Vc:∀l∈ls,1<=l.natAbs/\l.natAbs<=N):Jy S ls (λ S' =>Rs N (λ w=>W w/\∃x∈ls,iI w x=true) (bud+1) S' /\(S.refuted=true->S'.refuted=true)):=by
 refine EA (jb S 0) λ f1 f2 f3 f4 f5 f6 f7 f8 f9=>?_
 have Wl:=oM S
 have h1:=R.b1;have h2:=R.b2
 have hnz:∀l∈ls,l≠0:=λ l hl=>by have:=Vc l hl;exact nz this
 have hready:fL S ls=((cP S 0).uHeats S.heats):=by unfold fL;exact ah (rJ R.hk ls Vc) rfl
 have T1:nR N (fL S ls):=ah hready ((R.trl.back 0).turn rfl rfl rfl rfl rfl λ c r h=>⟨r,h,λ V=>o_⟩)
 have W1:mu N (fL S ls) 0 []:=ah hready (R.wt.same f8 f9)
 have L1:S.refuted=false->Lv N W [] (fL S ls):=λ h=>aS (R.live h) λ as0 L=>(ah hready ((L.back0 []).gain rfl rfl rfl rfl rfl rfl rfl rfl))
 have g1:(fL S ls).heats=S.heats:=ah hready rfl
 have g2:(fL S ls).lock=none:=ah hready (f2.trans R.lock)
 have g3:(fL S ls).limit=0:=ah hready (f3.trans R.lim)
 have g5:(fL S ls).refuted=S.refuted:=ah hready f5
 have g6:(fL S ls).log=S.log:=ah hready f6
 have g8:(fL S ls).rows=S.rows:=ah hready f8
 have g0:(fL S ls).begins=[]:=ah hready Wl
 refine ⟨R.trl.tr,R.lock,hz,λ l hl=>by have:=Vc l hl;exact Jf this hN,au h2 (au hb (by decide)),au h1 (au hb (by decide)),R.wt.wz (ac h1 (ac hb (af _ _))),by have:=R.trl.len;exact au this (au hN (by decide)),λ hp=>?_,λ hp c O=>?_⟩
 ·have e:W=λ w=>W w/\∃x∈ls,iI w x=true:=funext λ w=>propext ⟨λ h=>⟨h,Ka hp w hnz⟩,λ h=>h.1⟩
  exact dt e ⟨⟨ah g1 R.hk,g2,g3,ah g8 (ac h1 (ax _ _)),ah g6 (ac h2 (ax _ _)),T1,W1,λ h=>R.dead (g5.symm.trans h),λ h=>⟨[],L1 (g5.symm.trans h)⟩⟩,λ h=>g5.trans h⟩
 ·generalize fL S ls=S1 at*
  clear hready Wl f1 f2 f3 f4 f5 f6 f7 f8 f9
  have hcr:∀l∈c,1<=l.natAbs/\l.natAbs<=N:=λ l hl=>Vc l ((O.2.1 l).mp hl)
  have hc0:∀l∈c,l≠0:=λ l hl=>hnz l ((O.2.1 l).mp hl)
  unfold Ft
  by_cases hcond:S1.refuted=true\/(c.any λ l=>says S1 l==some true)=true
  ·refine ah (if_pos hcond) ⟨⟨ah g1 R.hk,g2,g3,ah g8 (ac h1 (ax _ _)),ah g6 (ac h2 (ax _ _)),T1,W1,λ h w hw=>R.dead (g5.symm.trans h) w hw.1,λ h=>?_⟩,λ h=>g5.trans h⟩
   have L:=L1 (g5.symm.trans h)
   rcases hcond with q | q
   ·replace q:=h▸q;exact (iP q).elim
   ·refine aH (dK.mp q) λ x hx hxs=>?_
    have hxs' :says S1 x=some true:=df hxs
    have hm:=(T1.tr.mem_true (hc0 x hx)).mp hxs'
    refine aS (aL.mp hm) λ i hi=>?_
    have e:W=λ w=>W w/\∃x∈ls,iI w x=true:=funext λ w=>propext ⟨λ h=>⟨h,x,(O.2.1 x).mp hx,L.cr.snd.c2 i x hi (ah g0 rfl) w h⟩,λ h=>h.1⟩
    exact dt e ⟨[],L⟩
  ·refine ah (if_neg hcond) ?_
   have hnr:S1.refuted=false:=by
    cases e:S1.refuted with
    | false=>rfl
    | true=>exact absurd (.inl e) hcond
   have hnt:∀x∈c,says S1 x≠some true:=λ x hx e=>hcond (.inr (dK.mpr ⟨x,hx,ah e rfl⟩))
   have L:=L1 (g5.symm.trans hnr)
   have V':=L.cr.snd
   have hfalse:∀x∈c,x∉mS S1 c->∀w,W w->iI w x=true->False:=λ x hx hn w hw hs=>by
    rcases T1.tr.cases (hc0 x hx) with ⟨q,_⟩ | ⟨_,q⟩ | ⟨q,_,_⟩
    ·exact hnt x hx q
    ·exact aS (aL.mp q) λ i hi=>(nA (hc0 x hx) hs (V'.c2 i _ hi (ah g0 rfl) w hw))
    ·exact hn (bx.mpr ⟨hx,ah q rfl⟩)
   have hleft:∀w,(W w/\∃x∈ls,iI w x=true)->∃x∈mS S1 c,iI w x=true:=λ w hw=>by
    obtain ⟨hw,x,hx,hs⟩:=hw
    have hxc:=(O.2.1 x).mpr hx
    by_cases h:x∈mS S1 c
    ·exact bY x h hs
    ·exact (hfalse x hxc h w hw hs).elim
   have hlc:∀x∈mS S1 c,x∈c/\says S1 x=none:=λ x hx=>by
    refine aP (bx.mp hx) λ a b=>⟨a,?_⟩
    cases e:says S1 x with
    | none=>rfl
    | some b' =>replace b:=e▸b;exact (iP b).elim
   have hlnd:((mS S1 c).map bE).Nodup:=(GY hp O).sublist (vS _ o8)
   have hdead:∀S2:SS,S2.refuted=S1.refuted->S2.refuted=true->∀w,¬(W w/\∃x∈ls,iI w x=true):=λ S2 e h=>by replace h:=hnr▸e▸h;exact (iP h).elim
   have hkeepr:∀S2:SS,S2.refuted=S1.refuted->S.refuted=true->S2.refuted=true:=λ S2 e h=>ae e (ae g5 h)
   generalize mS S1 c=lf at*
   match lf with
   | []=>
    refine ⟨⟨((ah g1 R.hk):HK N S1.heats),g2,g3,by refine (?_:S1.rows.length<=_);refine ah g8 ?_;exact ac h1 (ax _ _),by refine (?_:(S1.log++[[]]).length<=_);refine ah aA (ah g6 (ah aW ?_));exact bA h2 _,T1.turn rfl rfl rfl rfl rfl λ c r h=>⟨r,h,λ V=>o_⟩,W1.same rfl rfl,λ V w hw=>?_,λ h=>(v8 h).elim⟩,λ V=>rfl⟩
    refine aH (hleft w hw) λ x hx V=>?_
    cases hx
   | [l]=>
    clear hfalse hlnd;refine aP (hlc l (.head _)) λ hl1 hl2=>?_
    have T2:=T1.let_ (c:=none) hl2 (hcr l hl1) (λ k hk=>(bH hk).elim) (λ V=>rfl) (λ V q=>absurd g0 q)
    refine ⟨⟨by refine (?_:HK N S1.heats);refine ah g1 ?_;exact R.hk,g2,g3,by refine (?_:S1.rows.length<=_);refine ah g8 ?_;exact ac h1 (ax _ _),by refine (?_:S1.log.length<=_);refine ah g6 ?_;exact ac h2 (ax _ _),T2,W1.same rfl rfl,hdead _ rfl,λ V=>⟨[],?_⟩⟩,hkeepr _ rfl⟩
    have C2:xl (λ w=>W w/\∃x∈ls,iI w x=true) (ln S1 l none):=by
     refine ⟨λ r hr w hw=>V'.c1 r hr w hw.1,λ i x hi h0 w hw=>?_,λ w h1 h2=>⟨V'.c4 w h1 λ i x hi h0=>h2 i x (zM hi) h0,l,(O.2.1 l).mp hl1,?_⟩⟩
     ·clear T2 hl1 hl2 hlc;rcases rn hi with q | ⟨rfl,rfl⟩
      ·exact V'.c2 i x q h0 w hw.1
      ·refine aH (hleft w hw) λ y hy hys=>?_
       replace hys:=aq.mp hy▸hys;exact hys
     ·refine h2 S1.row.length l ?_ (by refine (?_:fD S1.begins _=0);refine ah g0 ?_;rfl)
      refine (?_:(S1.row++[l])[S1.row.length]? =some l)
      refine ae (c8 (aw _)) (ah (kF ..) ?_);rfl
    refine ⟨⟨T2,C2,xE.zero g0 C2⟩,W1.same rfl rfl,λ i r hr=>?_,λ b hb=>?_,λ b hb=>?_,?_⟩
    ·refine (?_:qa ((S1.row++[l]).take S1.seen) (S1.row++[l]) r)
     refine ah (dP L.sl) ?_
     exact (L.wi i r hr).mono (λ V h=>h) λ V h=>av _ h
    ·have UU :b∈S1.begins:=hb
     replace UU :=g0▸UU;cases UU
    ·have UU :b∈S1.begins:=hb
     replace UU :=g0▸UU;cases UU
    ·refine (?_:S1.seen<=(S1.row++[l]).length)
     have:=L.sl
     refine ah aA ?_;exact ac this (ax _ _)
   | l::k::t=>
    have hgood:Good N (l::k::t):=⟨by simp,hlnd,λ x hx=>hcr x (hlc x hx).1⟩
    refine aS (i9 S1 (l::k::t)) λ v e=>?_
    have T2:=T1.newrow (l::k::t)
    have W2:=W1.keep hgood
    have C2:xl (λ w=>W w/\∃x∈ls,iI w x=true) (iy S1 (l::k::t)):=by
     refine ah e ?_
     refine ⟨λ r hr w hw=>?_,λ i x hi h0 w hw=>V'.c2 i x hi h0 w hw.1,λ w h1 h2=>⟨V'.c4 w (λ r hr=>h1 r (av _ hr)) h2,?_⟩⟩
     ·rcases az.mp hr with hr | hr
      ·exact V'.c1 r hr w hw.1
      ·refine ah (aq.mp hr) ?_;exact hleft w hw
     ·refine aH (h1 _ (ak _ (.head _))) λ x hx hs=>?_
      exact bY x ((O.2.1 x).mp (hlc x hx).1) hs
    refine (?_:Rs N _ _ (iy S1 (l::k::t))/\(_->(iy S1 (l::k::t)).refuted=true))
    generalize hS2:iy S1 (l::k::t)=S2 at*
    have i1:S2.begins=[]:=by refine ah e ?_;exact g0
    have i2:S2.rows=S1.rows++[l::k::t]:=ah e rfl
    have i3:S2.row=S1.row:=ah e rfl
    have i4:S2.seen=S1.seen:=ah e rfl
    have i5:S2.refuted=S1.refuted:=ah e rfl
    refine ⟨⟨by refine ah e ?_;refine (?_:HK N S1.heats);refine ah g1 ?_;exact R.hk,by refine ah e ?_;exact g2,by refine ah e ?_;exact g3,by refine ah i2 (ah aA (ah g8 (ah aW ?_)));exact bA h1 _,by refine ah e ?_;refine (?_:S1.log.length<=_);refine ah g6 ?_;exact ac h2 (ax _ _),T2,W2,hdead _ i5,λ V=>⟨[],⟨T2,C2,xE.zero i1 C2⟩,W2,λ i r hr=>?_,by refine ah i1 ?_;exact λ b hb=>(by cases hb),by refine ah i1 ?_;exact λ b hb=>(by cases hb),by refine ah i4 (ah i3 ?_);exact L.sl⟩⟩,hkeepr _ i5⟩
    refine ah i3 (ah i4 ?_)
    replace hr:=i2▸hr
    rcases u'.mp hr with h | ⟨_,rfl⟩
    ·exact L.wi i r h
    ·have hun:∀x∈l::k::t,-x∉S1.row:=λ x hx q=>by
      have hh:=hlc x hx
      have:=T1.tr.false_ (hc0 x hh.1) q
      replace this:=hh.2▸this;exact (bH this).elim
     exact fN.mpr ⟨λ q=>absurd (cH _ _ q) (hun l (.head _)),λ q=>absurd (cH _ _ q) (hun k (.tail _ (.head _)))⟩
theorem Rs.init(N:Nat):Rs N (λ V=>True) 0 (iY N):=by
 have T:nR N (iY N):=⟨⟨eJ,λ v b=>⟨λ h=>((bH h).elim),λ Uy=>by refine aH Uy λ x hx V=>?_;clear Uy;exact by cases hx⟩⟩,λ l hl=>(by cases hl),O5,λ b hb=>(by cases hb),λ i l hi=>(by simp [iY] at hi),λ i l hi=>by simp [iY] at hi⟩
 have Wt:mu N (iY N) 0 []:=by
  have e:∀l,wp (iY N) 0 [] l=[]:=λ l=>ae (jw ..) rfl
  refine ⟨λ i r h=>(by simp [iY] at h),λ l=>ah (e ..) eJ,λ l i=>ah (e ..) ⟨λ h=>(by cases h),λ UB=>by refine aH UB λ r h V=>?_;clear UB;exact by simp [iY] at h⟩⟩
 have C:xl (λ V=>True) (iY N):=⟨λ r hr=>(by cases hr),λ i l hi=>(by simp [iY] at hi),λ V V V=>trivial⟩
 refine ⟨λ k=>(((ah bI (gk aF ?_)):k∈((bk N).map λ(i:Nat)=>((i:Int)+1,(0:Int))).map (·.1)↔_)),rfl,rfl,aw _,aw _,T,Wt,λ h=>((iP h).elim),λ V=>⟨[],⟨⟨T,C,xE.zero rfl C⟩,Wt,λ i r h=>(by simp [iY] at h),λ b hb=>(by cases hb),λ b hb=>(by cases hb),aw _⟩⟩⟩
 constructor
 ·intro UC;refine aH UC λ i hi UF=>?_;clear UC;subst UF
  have:=bK.mp hi
  refine (?_:1<=(i:Int)+1/\(i:Int)+1<=N)
  exact Nu this
 ·intro h
  exact bY ((k-1).toNat) (bK.mpr (Nt h)) (by refine (?_:(((k-1).toNat:Nat):Int)+1=k);exact Nr h)
end
section
open PySem.SetTable
noncomputable def jO(bs:List Bool):Int:=reduceHash (O8 (bs.map λ b=>if b then 1 else 0))
noncomputable def cp(mask:Nat):Nat->Nat->Nat->List Nat
 | 0,_,_=>[]
 | f+1,i,p=>(bk (runEnd mask i+1-i)).map (λ k=>i+k)++cp mask f (leap mask i p).1 (leap mask i p).2
theorem Hz(mask f i p:Nat):cp mask (f+1) i p=(bk (runEnd mask i+1-i)).map (λ k=>i+k)++cp mask f (leap mask i p).1 (leap mask i p).2:=rfl
theorem Ko(t:jD)(f:Nat->Int)(h:Int)(fuel:Nat)(p:Probe):probe.go t f h (fuel+1) p=(match t.slot p.j with
 | .empty=>some (.empty p.j p.dummy)
 | .dummy=>probe.go t f h fuel (t.advance {p with dummy:=some p.j})
 | .live i=>if f i==h then some (.candidate p.j i (t.advance p)) else probe.go t f h fuel (t.advance p)):=rfl
theorem Rl(xs:Array Nat)(j fuel lo hi:Nat):below.go xs j (fuel+1) lo hi=if lo<hi then (if xs.getD ((lo+hi)/2) j<j then below.go xs j fuel ((lo+hi)/2+1) hi else below.go xs j fuel lo ((lo+hi)/2)) else lo:=rfl
noncomputable def lj(mask:Nat)(h:Int):List Nat:=cp mask (turns mask) (bits h%(mask+1)) (bits h)
noncomputable def uS(h:Int):Bool:=(bk 8).all (λ j=>(lj 7 h).contains j)&&(bk 32).all (λ j=>(lj 31 h).contains j)
noncomputable def allB:Nat->List (List Bool)
 | 0=>[[]]
 | k+1=>(allB k).flatMap λ l=>[false::l,true::l]
theorem mP:∀(k:Nat) (bs:List Bool),bs∈allB k↔bs.length=k
 | 0,bs=>by simp [allB]
 | k+1,[]=>by simp [allB]
 | k+1,b::bs=>by
  have:=mP k bs
  unfold allB
  refine gk rD ?_
  constructor
  ·intro Uv;refine aH Uv λ l hl h=>?_;clear Uv
   rcases aM.mp h with e | h
   ·(try clear h);cases e;exact ae bM (ah (this.mp hl) rfl)
   ·cases aq.mp h;exact ae bM (ah (this.mp hl) rfl)
  ·intro h
   refine bY bs (this.mpr (by simpa using h)) ?_
   (try clear h);cases b<;>simp
theorem wC:∀k:Nat,(allB k).length=2^k
 | 0=>rfl
 | k+1=>by
  unfold allB
  refine ae o6 ?_
  have:∀l:List (List Bool),(l.map λ x=>[false::x,true::x].length).sum=2*l.length:=λ l=>by
   induction l with
   | nil=>rfl
   | cons a r ih=>refine ah aU (ae vP (ah ih ?_));simp;exact kH _ _
  refine ae (this ..) (ah (wC k) (ah (zq ..) ?_));exact MF
noncomputable def J9(k:Nat):Bool:=(allB k).all (λ bs=>uS (jO bs))&&decide (((allB k).map jO).Nodup)
theorem PU:J9 1=true:=by decide+kernel
theorem PT:J9 2=true:=by decide+kernel
theorem PR:J9 3=true:=by decide+kernel
theorem PQ:J9 4=true:=by decide+kernel
theorem zR(h1:1<=k)(h4:k<=4):J9 k=true:=by
 match k,h1,h4 with
 | 1,_,_=>exact PU
 | 2,_,_=>exact PT
 | 3,_,_=>exact PR
 | 4,_,_=>exact PQ
theorem Av(h1:1<=k)(h4:k<=4)(hl:bs.length=k):uS (jO bs)=true:=by
 have:=zR h1 h4
 unfold J9 at this
 exact bZ.mp (bf.mp this).1 _ ((mP k bs).mpr hl)
theorem tJ{α β:Type}{f:α->β}:∀{l:List α},(l.map f).Nodup->∀{x y:α},x∈l->y∈l->f x=f y->x=y
 | [],_,x,y,hx,_,_=>by cases hx
 | a::l,h,x,y,hx,hy,e=>by
  refine aP (aY.mp h) λ h1 h2=>?_
  rcases aM.mp hx with ex | hx<;>rcases aM.mp hy with ey | hy
  ·exact ae ex (ah ey rfl)
  ·exact absurd (aF.mpr ⟨y,hy,(ex▸e).symm⟩) h1
  ·exact absurd (aF.mpr ⟨x,hx,ey▸e⟩) h1
  ·exact tJ h2 hx hy e
theorem Fj(h1:1<=k)(h4:k<=4)(hx:x.length=k)(hy:y.length=k)(e:jO x=jO y):x=y:=by
 have:=zR h1 h4
 unfold J9 at this
 have h:=of_decide_eq_true (bf.mp this).2
 exact tJ h ((mP k x).mpr hx) ((mP k y).mpr hy) e
theorem jl{α:Type}[DecidableEq α]:∀{c ls:List α},c.Nodup->(∀x∈c,x∈ls)->c.length<=ls.length
 | [],_,_,_=>a0 _
 | x::c,ls,hn,hs=>by
  refine aP (aY.mp hn) λ h1 h2=>?_
  have hx:=hs x (.head _)
  have:=jl (ls:=ls.erase x) h2 λ y hy=>(AU (λ e=>h1 (by exact dt e hy))).mpr (hs y (.tail _ hy))
  replace this:=vQ hx▸this
  have:=mC hx
  refine ah bM ?_;lia
theorem Jo{mask:Nat}:∀(f i p:Nat),i<=mask->∀j∈cp mask f i p,j<=mask
 | 0,_,_,_,j,h=>by cases h
 | f+1,i,p,hi,j,h=>by
  replace h:=(Hz ..)▸h
  rcases az.mp h with h | h
  ·refine aH (aF.mp h) λ k hk Uy=>?_;subst Uy
   have:=bK.mp hk
   unfold runEnd at this
   split at this<;>lia
  ·exact Jo f _ _ (by unfold leap;exact aQ (Gg _ (dN _))) j h
theorem EH{mask:Nat}:∀(f i p:Nat),(cp mask f i p).length<=10*f
 | 0,_,_=>aw _
 | f+1,i,p=>by
  refine ah (Hz ..) (ah aA (ah (ag ..) (ah eT ?_)))
  have:=EH (mask:=mask) f (leap mask i p).1 (leap mask i p).2
  unfold runEnd
  refine eC (λ V=>?_) λ V=>?_<;>lia
theorem uo{mask:Nat}:∀j∈lj mask h,j<=mask:=Jo _ _ _ (aQ (Gg _ (dN _)))
theorem wj{mask:Nat}:(lj mask h).length<=10*turns mask:=EH _ _ _
noncomputable def FZ(t:jD):Probe->List Nat->Prop
 | _,[]=>True
 | p,j::l=>p.j=j/\FZ t (t.advance p) l
theorem FZ.pre:∀{a b:List Nat} {p:Probe},FZ t p (a++b)->FZ t p a
 | [],_,_,_=>trivial
 | j::a,b,p,h=>⟨h.1,FZ.pre h.2⟩
theorem Ak(l:List Nat):∀(m i d pt:Nat) (dm:Option Nat),FZ t ⟨(leap t.mask i pt).1,runEnd t.mask (leap t.mask i pt).1-(leap t.mask i pt).1,(leap t.mask i pt).1,(leap t.mask i pt).2,dm⟩ l->
  FZ t ⟨i+d,m,i,pt,dm⟩ ((bk (m+1)).map (λ k=>i+d+k)++l)
 | 0,i,d,pt,dm,h=>⟨rfl,h⟩
 | m+1,i,d,pt,dm,h=>by
  have ih:=Ak l m i (d+1) pt dm h
  have e:(bk (m+1+1)).map (λ k=>i+d+k)=(i+d)::(bk (m+1)).map (λ k=>i+(d+1)+k):=by
   refine ah List.range_succ_eq_map (ae aU (ah bI ?_))
   congr 1
   refine dq λ k V=>(?_:i+d+(k+1)=_)
   exact MQ
  exact ah e (⟨rfl,((ih:FZ t ⟨i+d+1,m,i,pt,dm⟩ _))⟩)
theorem Eu:∀(f i pt:Nat) (dm:Option Nat),FZ t ⟨i,runEnd t.mask i-i,i,pt,dm⟩ (cp t.mask f i pt)
 | 0,_,_,_=>trivial
 | f+1,i,pt,dm=>by
  have ih:=Eu (t:=t) f (leap t.mask i pt).1 (leap t.mask i pt).2 dm
  have h:=Ak _ (runEnd t.mask i-i) i 0 pt dm ih
  refine ah (Hz ..) ?_
  have e:runEnd t.mask i+1-i=runEnd t.mask i-i+1:=by unfold runEnd;refine eC (λ V=>?_) λ V=>?_<;>lia
  exact ah e h
theorem wL(t:jD)(h:Int):FZ t (t.probeStart h) (lj t.mask h):=Eu _ _ _ _
theorem Ca(t:jD)(p:Probe):(t.advance p).dummy=p.dummy:=by
 unfold advance
 refine eC (λ V=>?_) λ V=>?_<;>rfl
theorem uL{f:Nat->Int}:∀(pre:List Nat) (p:Probe) (fuel:Nat),FZ t p (pre++[j])->pre.length<fuel->(∀x∈pre,∃i,t.slot x=.live i/\f i≠h)->
  (t.slot j=.empty->probe.go t f h fuel p=some (.empty j p.dummy))/\(∀i,t.slot j=.live i->f i=h->∃nx,probe.go t f h fuel p=some (.candidate j i nx))
 | [],p,0,_,hl,_=>by cases hl
 | [],p,fuel+1,hf,_,_=>by
  have hj:p.j=j:=hf.1
  refine ⟨λ hs=>?_,λ i hs hi=>?_⟩
  ·exact ae (Ko ..) (ah hj (ah hs rfl))
  ·refine ah (Ko ..) (ah hj (ah hs ?_))
   simp only [hi,beq_self_eq_true,if_true]
   exact ⟨_,rfl⟩
 | x::pre,p,0,_,hl,_=>by cases hl
 | x::pre,p,fuel+1,hf,hl,hp=>by
  have hx:p.j=x:=hf.1
  refine aH (hp x (.head _)) λ i hi hne=>?_
  have ih:=uL (f:=f) pre (t.advance p) fuel hf.2 (by replace hl:=bM▸hl;exact ai (aK _) (aQ hl)) λ y hy=>hp y (.tail _ hy)
  replace ih:=(Ca ..)▸ih
  have e:probe.go t f h (fuel+1) p=probe.go t f h fuel (t.advance p):=by
   refine ae (Ko ..) (ah hx (ah hi ?_))
   simp only [beq_iff_eq,hne,if_false]
  exact ah e ih
theorem ss(up:∀a b,a<b->b<xs.size->xs.getD a 0<xs.getD b 0):∀(fuel lo hi:Nat),hi-lo<=fuel->lo<=hi->hi<=xs.size->(∀i,i<lo->xs.getD i 0<j)->(∀i,hi<=i->i<xs.size->j<=xs.getD i 0)->
  ∃k,below.go xs j fuel lo hi=k/\k<=xs.size/\(∀i,i<k->xs.getD i 0<j)/\∀i,k<=i->i<xs.size->j<=xs.getD i 0
 | 0,lo,hi,hf,h1,h2,h3,h4=>by
  have:lo=hi:=a_ h1 (gN (zt hf))
  clear h1 hf;subst this
  exact oa lo rfl h2 h3 h4
 | fuel+1,lo,hi,hf,h1,h2,h3,h4=>by
  refine ah (Rl ..) (eC (λ hlt=>?_) λ V=>?_)
  ·have hgd:xs.getD ((lo+hi)/2) j=xs.getD ((lo+hi)/2) 0:=by
    have:(lo+hi)/2<xs.size:=ai (Pc hlt) h2
    simp only [fJ,this,dif_pos]
   refine ah hgd (eC (λ hm=>?_) λ hm=>?_)
   ·refine ss up fuel _ hi (Si hf) (bB (Pc hlt)) h2 (λ i hi' =>?_) h4
    rcases bV i ((lo+hi)/2) with q | q
    ·exact bz (up i _ q (ai (Pc hlt) h2)) hm
    ·have:i=(lo+hi)/2:=a_ (aQ hi') q
     exact ah this hm
   ·refine ss up fuel lo _ (SV hf hlt) (SU hlt) (aG (ai (Pc hlt) h2)) h3 λ i Zh hi2=>?_
    rcases qD Zh with q | q
    ·exact dt q (b0 hm)
    ·have:=up _ i q hi2;exact ac (b0 hm) (aG this)
  ·exact oa lo rfl (ac h1 h2) h3 (λ i q1 q2=>h4 i (ac (b0 (by assumption)) q1) q2)
theorem lR(up:∀a b,a<b->b<xs.size->xs.getD a 0<xs.getD b 0)(j:Nat):below xs j<=xs.size/\(∀i,i<below xs j->xs.getD i 0<j)/\∀i,below xs j<=i->i<xs.size->j<=xs.getD i 0:=by
 refine aH (ss (j:=j) up xs.size 0 xs.size (eE _ _) (a0 _) (aw _) (λ i h=>absurd h (ef _)) (λ i h1 h2=>absurd h2 (eG.mpr h1))) λ k e h=>?_
 unfold below;exact ah e h
theorem EZ(up:∀a b,a<b->b<xs.size->xs.getD a 0<xs.getD b 0)(hi:i<xs.size):below xs (xs.getD i 0)=i:=by
 refine ck (lR up (xs.getD i 0)) λ h1 h2 h3=>?_
 rcases lF (below xs (xs.getD i 0)) i with q | q | q
 ·have:=h3 _ (aw _) (bz q hi)
  have:=up _ _ q hi;lia
 ·exact q
 ·have:=h2 i q;exact absurd (cC _ this) (by decide)
theorem yY(up:∀a b,a<b->b<xs.size->xs.getD a 0<xs.getD b 0)(hi:i<xs.size):below xs (xs.getD i 0+1)=i+1:=by
 refine ck (lR up (xs.getD i 0+1)) λ h1 h2 h3=>?_
 rcases lF (below xs (xs.getD i 0+1)) (i+1) with q | q | q
 ·have:=h3 i (aQ q) hi;exact MP this
 ·exact q
 ·have:=h2 (i+1) q
  have:=up i (i+1) (aK _) (ai q h1);lia
theorem yX(xs:Array Nat)(up:∀a b,a<b->b<xs.size->xs.getD a 0<xs.getD b 0):below xs 0=0:=by
 refine ck (lR up 0) λ h1 h2 h3=>?_
 rcases d4 (below xs 0) with q | q
 ·exact q
 ·exact absurd (h2 0 q) (ef _)
theorem Mc{xs:Array Nat}(h:xs.toList.Pairwise (·< ·)):∀a b,a<b->b<xs.size->xs.getD a 0<xs.getD b 0:=λ a b hab hb=>by
 have:=cW.mp h a b (by simpa using bz hab hb) (by simpa using hb) hab
 have ha:a<xs.size:=bz hab hb
 simp only [fJ,ha,hb,dif_pos]
 simpa using this
end
section
open PySem.SetTable
structure Tb(t:jD)(hs:List Int):Prop where
 msk:t.mask=7\/t.mask=31
 dm:t.dummies=#[]
 sz:t.place.toList.length=hs.length
 up:t.place.toList.Pairwise (·< ·)
 le:∀j∈t.place.toList,j<=t.mask
 nd:hs.Nodup
 cv:∀h∈hs,uS h=true
 pth:∀q∈t.place.toList.zip hs,∃pre post,lj t.mask q.2=pre++q.1::post/\q.1∉pre/\∀j∈pre,j∈t.place.toList
theorem Ah(j:Nat):has #[] j=false:=by
 unfold has
 exact ((ah Array.getElem?_empty rfl):((#[]:Array Nat)[below #[] j]? ==some j)=false)
section
variable{t:jD}{hs:List Int}
theorem Tb.upA(T:Tb t hs):∀a b,a<b->b<t.place.size->t.place.getD a 0<t.place.getD b 0:=Mc T.up
theorem tX{xs:Array Nat}(h:xs[i]? =some j):xs.getD i 0=j:=by
 obtain ⟨hi,e⟩:=gV.mp h
 simp only [fJ,hi,dif_pos];simpa using e
theorem Tb.slot_live(T:Tb t hs){i j:Nat}(h:t.place[i]? =some j):t.slot j=.live i:=by
 have hi:=(gV.mp h).1
 have hb:=EZ T.upA hi
 replace hb:=tX h▸hb
 unfold slot
 dsimp only
 refine ah hb (ah h ?_);simp
theorem Tb.slot_empty(T:Tb t hs)(h:j∉t.place.toList):t.slot j=.empty:=by
 unfold slot
 dsimp only
 refine ah T.dm (ah (Ah ..) ?_)
 have:¬(t.place[below t.place j]? ==some j)=true:=λ e=>by
  have:=df e
  exact h (by replace this:=dc c_▸this;exact am this)
 exact ae (if_neg this) (ae (if_neg (by simp)) rfl)
theorem Tb.of_mem(T:Tb t hs)(h:j∈t.place.toList):∃(i:Nat) (hh:Int),t.place[i]? =some j/\hs[i]? =some hh/\(j,hh)∈t.place.toList.zip hs:=by
 refine aS (aL.mp h) λ i hi=>?_
 have hlt:=(al.mp hi).1
 have hh:hs[i]? =some (hs[i]'(dt T.sz hlt)):=aB _
 refine jG i _ (sV c_ hi) hh ?_
 exact am (i:=i) (gk lb ⟨hi,hh⟩)
theorem EI(T:Tb t hs)(hc:uS h=true)(hj:j<=t.mask):j∈lj t.mask h:=by
 unfold uS at hc
 refine aP (bf.mp hc) λ c1 c2=>?_
 rcases T.msk with e | e
 ·rw [e] at hj⊢
  exact fk.mp (bZ.mp c1 j (bK.mpr (bO hj)))
 ·rw [e] at hj⊢
  exact fk.mp (bZ.mp c2 j (bK.mpr (bO hj)))
theorem t0{P:Nat->Prop}[DecidablePred P]:∀{l:List Nat},(∃j∈l,¬P j)->∃pre j post,l=pre++j::post/\¬P j/\∀x∈pre,P x
 | [],⟨j,h,_⟩=>by cases h
 | a::l,⟨j,h,hj⟩=>by
  by_cases ha:P a
  ·rcases aM.mp h with rfl | h
   ·exact absurd ha hj
   ·exact pG (t0 ⟨j,h,hj⟩) λ pre j' post e q k=>(t7 (a::pre) j' post (ah e rfl) q (λ x hx=>(aM.mp hx).elim (λ e=>e▸ha) (k x)))
  ·exact t7 [] a l rfl ha (λ x hx=>by cases hx)
theorem Tb.found(T:Tb t hs){f:Nat->Int}(hf:∀i h,hs[i]? =some h->f i=h)(hi:hs[i]? =some h):∃j nx,t.probe f h (t.probeStart h)=some (.candidate j i nx)/\t.place[i]? =some j:=by
 have hlt:i<t.place.toList.length:=ah T.sz ((al.mp hi).1)
 have hj:t.place.toList[i]? =some t.place.toList[i]:=aB hlt
 generalize t.place.toList[i]=j at hj
 (try clear hlt);refine gJ (T.pth (j,h) (am (i:=i) (gk lb ⟨hj,hi⟩))) λ pre post e hn hp=>?_
 have hF:=wL t h
 replace hF:=(show lj t.mask h=(pre++[j])++post by refine ae e ?_;simp)▸hF
 have hlen:pre.length<10*turns t.mask:=by
  have:=wj (mask:=t.mask) (h:=h)
  replace this:=bM▸aA▸e▸this
  exact ai (bO (ax _ _)) this
 have hjA:t.place[i]? =some j:=sV c_ hj
 clear e hj;refine aP (uL (f:=f) (h:=h) pre _ _ hF.pre hlen λ x hx=>by
  clear hF;refine gJ (T.of_mem (hp x hx)) λ i' h' q1 q2 V=>(bY i' (T.slot_live q1) (λ q=>hn ?_))
  replace q:=hf i' h' q2▸q
  clear hn;subst q
  have:i' =i:=(gQ (al.mp q2).1 T.nd).mp (ae q2 (ah hi rfl))
  clear hi;subst this
  replace q1:=hjA▸q1
  exact ah (bq q1) hx) λ V g=>?_
 exact aS (g i (T.slot_live hjA) (hf i h hi)) λ nx q=>(ib j nx q hjA)
theorem Tb.free(T:Tb t hs)(Vf:hs.length<=t.mask){f:Nat->Int}(hf:∀i h,hs[i]? =some h->f i=h)(hh:h∉hs)(hc:uS h=true):
  ∃j,t.probe f h (t.probeStart h)=some (.empty j none)/\j∉t.place.toList/\j<=t.mask/\∃pre post,lj t.mask h=pre++j::post/\j∉pre/\∀x∈pre,x∈t.place.toList:=by
 have:∃j∈lj t.mask h,¬j∈t.place.toList:=by
  refine cS λ hn=>?_
  have hall:∀j∈bk (t.mask+1),j∈t.place.toList:=λ j hj=>cS λ q=>hn ⟨j,EI T hc (by have:=bK.mp hj;exact aQ this),q⟩
  have:=jl g_ hall
  replace this:=T.sz▸eT▸this
  exact cj (ai (ai (aK _) this) Vf) rfl
 refine pG (t0 this) λ pre j post e hj hp=>?_
 have hF:=wL t h
 replace hF:=(show lj t.mask h=(pre++[j])++post by refine ae e ?_;simp)▸hF
 have hlen:pre.length<10*turns t.mask:=by
  have:=wj (mask:=t.mask) (h:=h)
  replace this:=bM▸aA▸e▸this
  exact ai (bO (ax _ _)) this
 refine aP (uL (f:=f) (h:=h) pre _ _ hF.pre hlen λ x hx=>gJ (T.of_mem (hp x hx)) λ i' h' q1 q2 V=>(bY i' (T.slot_live q1) (λ q=>hh (dt q (ah (hf i' h' q2) (am q2)))))) λ g V=>?_
 exact ⟨j,g (T.slot_empty hj),hj,uo j (by refine ah e ?_;simp),pre,post,e,λ q=>hj (hp j q),hp⟩
theorem n_{α:Type}(xs:Array α)(p:Nat)(x:α):(insertAt xs p x).toList=xs.toList.take p++x::xs.toList.drop p:=Ue xs p x
theorem GL{α β:Type}(p:Nat)(a:List α)(b:List β)(x:α)(y:β)(h:a.length=b.length):(a.take p++x::a.drop p).zip (b.take p++y::b.drop p)=(a.zip b).take p++(x,y)::(a.zip b).drop p:=ae (List.zip_append (ae bL (ah bL (ah h rfl)))) (ah dY (((ah List.take_zipWith (ah List.drop_zipWith rfl)):(a.take p).zipWith Gc (b.take p)++(x,y)::(a.drop p).zipWith Gc (b.drop p)=(a.zipWith Gc b).take p++(x,y)::(a.zipWith Gc b).drop p)))
theorem nD{α:Type}{a:List α}{x z:α}:z∈a.take p++x::a.drop p↔z=x\/z∈a:=by
 refine gk az (gk aM ?_)
 constructor
 ·rintro (h | h | h)
  ·exact .inr (AS h)
  ·exact .inl h
  ·exact .inr (AT h)
 ·rintro (h | h)
  ·exact .inr (.inl h)
  ·replace h:=dc (fj p a)▸h
   rcases az.mp h with h | h
   ·exact .inl h
   ·exact .inr (.inr h)
theorem pA{α:Type}(p:Nat)(a:List α)(x:α):(a.take p++x::a.drop p).Perm (x::a):=by
 refine ju.trans ?_
 rw [fj]
theorem Tb.put(T:Tb t hs){j:Nat}(hj:j∉t.place.toList)(Vh:j<=t.mask)(hh:h∉hs)(hc:uS h=true)(hp:∃pre post,lj t.mask h=pre++j::post/\j∉pre/\∀x∈pre,x∈t.place.toList):
  ∃p,(t.put j).2=p/\p<=hs.length/\Tb (t.put j).1 (hs.take p++h::hs.drop p)/\(t.put j).1.mask=t.mask/\(t.put j).1.plain=t.plain/\(t.put j).1.led=t.led:=by
 refine ck (lR T.upA j) λ b1 b2 b3=>?_
 have hd:(if has t.dummies j then eraseAt t.dummies (below t.dummies j) else t.dummies)=#[]:=ah T.dm (ah (Ah ..) rfl)
 refine Oj (below t.place j) rfl (by refine dt T.sz ?_;simpa using b1) ?_ rfl rfl rfl
 have hl:(t.put j).1.place.toList=t.place.toList.take (below t.place j)++j::t.place.toList.drop (below t.place j):=n_ _ _ _
 generalize below t.place j=p at*
 refine ⟨T.msk,hd,?_,?_,?_,?_,?_,?_⟩
 ·exact ah hl (ae ((pA _ _ _).length_eq) (ah ((pA _ _ _).length_eq) (ae bM (ah bM (ah T.sz rfl)))))
 ·refine ah hl (gk jJ ?_)
  have gd:∀i x,t.place.toList[i]? =some x->t.place.getD i 0=x:=λ i x e=>tX (sV c_ e)
  refine dn (T.up.sublist (gP _ _)) (fh.mpr ⟨λ y hy=>?_,T.up.sublist (List.drop_sublist _ _)⟩) (λ x hx y hy=>?_)
  ·refine aS (aL.mp hy) λ i hi=>?_
   replace hi:=qc▸hi
   have h1:=b3 (p+i) (ax _ _) (by have:=(al.mp hi).1;simpa using this)
   replace h1:=gd _ _ hi▸h1
   have:j≠y:=λ e=>hj (ah e (AT hy))
   exact cV h1 this
  ·clear hd hj hl Vh hp;refine aS (aL.mp hx) λ i hi=>?_
   replace hi:=bS▸hi
   split at hi
   ·rename_i hip
    have h1:=b2 i hip
    replace h1:=gd _ _ hi▸h1
    clear b2;rcases aM.mp hy with rfl | hy
    ·exact h1
    ·refine aS (aL.mp hy) λ k hk=>?_
     replace hk:=qc▸hk
     have h2:=b3 (p+k) (ax _ _) (by have:=(al.mp hk).1;simpa using this)
     replace h2:=gd _ _ hk▸h2
     exact ai h1 h2
   ·exact (bH hi).elim
 ·intro x hx
  replace hx:=hl▸hx
  clear b2 b3 hd hj hl hp;rcases nD.mp hx with rfl | hx
  ·exact Vh
  ·exact T.le x hx
 ·exact (pA _ _ _).nodup_iff.mpr (aY.mpr ⟨hh,T.nd⟩)
 ·intro x hx
  clear hh hp;rcases nD.mp hx with rfl | hx
  ·exact hc
  ·exact T.cv x hx
 ·intro q hq
  replace hq:=GL _ _ _ _ _ T.sz▸hl▸hq
  rcases nD.mp hq with rfl | hq
  ·refine gJ hp λ pre post e1 e2 e3=>?_;clear hp
   exact jG pre post e1 e2 (λ x hx=>ah hl (nD.mpr (.inr (e3 x hx))))
  ·exact gJ (T.pth q hq) λ pre post e1 e2 e3=>(jG pre post e1 e2 (λ x hx=>ah hl (nD.mpr (.inr (e3 x hx)))))
theorem Tb.fits(T:Tb t hs)(h:hs.length<=t.mask):t.fits hs.length=true:=by
 unfold Ug n6
 refine ah T.dm ?_
 have:=T.sz
 simp at this
 simp [this];exact h
theorem Tb.full(T:Tb t hs):t.tooFull=decide (hs.length*5>=t.mask*3):=by
 unfold Ud n6
 refine ah T.dm ?_
 have:=T.sz
 simp at this
 simp [this]
theorem Tb.fresh(finger moves:Nat)(led:Bool):Tb (CK finger moves led) []:=
 ⟨.inl rfl,rfl,rfl,.nil,(λ j h=>by cases h),eJ,(λ j h=>by cases h),λ q h=>by cases h⟩
end
structure Ow(mask:Nat)(hs:List Int)(ow:Array (Option Nat))(k:Nat):Prop where
 sz:ow.size=mask+1
 at_:∀j i,ow[j]? =some (some i)->i<k/\∃h,hs[i]? =some h/\∃pre post,lj mask h=pre++j::post/\j∉pre/\∀x∈pre,∃y,ow[x]? =some (some y)
 all:∀i,i<k->∃j:Nat,ow[j]? =some (some i)
 one:∀(j j' i:Nat),ow[j]? =some (some i)->ow[j']? =some (some i)->j=j'
theorem Aj(mask:Nat)(ow:Array (Option Nat)):∀(f i p:Nat),layClean.free mask ow f i p=(cp mask f i p).find? λ j=>(ow.getD j (some 0)).isNone
 | 0,i,p=>rfl
 | f+1,i,p=>by
  refine ah (Hz ..) (ah List.find?_append (ah JH (?_:(match (bk (runEnd mask i+1-i)).find? λ k=>(ow.getD (i+k) (some 0)).isNone with | some k=>some (i+k) | none=>layClean.free mask ow f (leap mask i p).1 (leap mask i p).2)=_)))
  have e:((λ j=>(ow.getD j (some 0)).isNone)∘λ k=>i+k)=λ k=>(ow.getD (i+k) (some 0)).isNone:=rfl
  refine ah e ?_
  cases (bk (runEnd mask i+1-i)).find? λ k=>(ow.getD (i+k) (some 0)).isNone with
  | some k=>rfl
  | none=>simp only [Option.map_none,GC];exact Aj mask ow f _ _
theorem rV{p:Nat->Bool}:∀{l:List Nat},(∃j∈l,p j=true)->∃pre j post,l=pre++j::post/\l.find? p=some j/\p j=true/\∀x∈pre,p x=false
 | [],⟨j,h,_⟩=>by cases h
 | a::l,⟨j,h,hj⟩=>by
  by_cases ha:p a=true
  ·exact t6 [] a l rfl (ae iH (ah ha rfl)) ha (λ x hx=>by cases hx)
  ·have Ws :p a=false:=by simpa using ha
   rcases aM.mp h with rfl | h
   ·exact absurd hj ha
   ·exact r_ (rV ⟨j,h,hj⟩) λ pre j' post e q k z=>(t6 (a::pre) j' post (ah e rfl) (ae iH (ah Ws q)) k (λ x hx=>(aM.mp hx).elim (λ e=>e▸Ws) (z x)))
theorem Ow.init(mask:Nat)(hs:List Int):Ow mask hs (GK (mask+1) none) 0:=
 ⟨by simp,λ j i h=>(by replace h:=vH▸h;split at h<;>cases h),λ i h=>absurd h (ef _),λ j j' i h=>(by replace h:=vH▸h;split at h<;>cases h)⟩
theorem Ow.step{mask:Nat}{k:Nat}{h:Int}(O:Ow mask hs ow k)(hk:hs[k]? =some h)(Vf:k<=mask)(hc:∀j,j<=mask->j∈lj mask h):
  ∃j,layClean.free mask ow (turns mask) (bits h%(mask+1)) (bits h)=some j/\Ow mask hs (ow.setIfInBounds j (some k)) (k+1):=by
 have hex:∃j∈lj mask h,(ow.getD j (some 0)).isNone=true:=by
  refine cS λ hn=>?_
  have hall:∀j,j<=mask->∃i,ow[j]? =some (some i):=λ j hj=>by
   have hlt:j<ow.size:=ah O.sz (bO hj)
   have hg:ow[j]? =some ow[j]:=cq hlt
   cases e:ow[j] with
   | some i=>exact ⟨i,ae hg (ah e rfl)⟩
   | none=>exact absurd ⟨j,hc j hj,by simp only [fJ,hlt,dif_pos];exact ((ah e rfl):(ow[j]).isNone=true)⟩ hn
  have hch:∀j:Nat,∃i,j<=mask->ow[j]? =some (some i):=λ j=>by
   by_cases hj:j<=mask
   ·exact aS (hall j hj) λ i hi=>⟨i,λ V=>hi⟩
   ·exact ⟨0,λ h=>absurd h hj⟩
  refine aS (TV.mp hch) λ g hg=>?_
  have hnd:((bk (mask+1)).map g).Nodup:=by
   unfold gp
   refine gk cE (qF ?_ (g_ (n:=mask+1)))
   intro a b ha hb hne e
   have Ws :=bK.mp ha
   have UU :=bK.mp hb
   exact hne (O.one a b (g a) (hg a (aQ Ws)) (ah e (hg b (aQ UU))))
  have:=jl (ls:=bk k) hnd λ x hx=>by
   refine aH (aF.mp hx) λ j hj Uv=>?_;subst Uv
   have:=bK.mp hj
   exact bK.mpr (O.at_ j _ (hg j (aQ this))).1
  replace this:=eT▸eT▸(ag ..)▸this
  exact cj (ai (ai (aK _) this) Vf) rfl
 (try clear Vf);refine r_ (rV hex) λ pre j post e hf hj hp=>?_
 have hjm:j<=mask:=uo j (by refine ah e ?_;simp)
 have hjs:j<ow.size:=ah O.sz (bO hjm)
 have hjn:ow[j]? =some none:=by
  refine ae (cq hjs) ?_
  simp only [fJ,hjs,dif_pos] at hj
  have hj' :(ow[j]).isNone=true:=hj
  cases q:ow[j] with
  | none=>rfl
  | some i=>replace hj' :=q▸hj';exact (iP hj').elim
 have hset:∀x,(ow.setIfInBounds j (some k))[x]? =if j=x then some (some k) else ow[x]? :=λ x=>by
  refine ae Array.getElem?_setIfInBounds ?_
  split at⊢
  ·rename_i e;subst e;first | rfl | rw [if_pos hjs]
  ·rfl
 have hold:∀x y,ow[x]? =some (some y)->(ow.setIfInBounds j (some k))[x]? =some (some y):=λ x y q=>ae (hset ..) (ae (if_neg (λ e=>by replace hjn:=q▸e▸hjn;have Uy:=sI hjn;clear hjn;exact (bH Uy).elim)) q)
 have hpre:∀x∈pre,∃y,ow[x]? =some (some y):=λ x hx=>by
  have hxm:x<=mask:=uo (mask:=mask) (h:=h) x (by refine ah e ?_;simp [hx])
  have hxs:x<ow.size:=ah O.sz (bO hxm)
  have:=hp x hx
  simp only [fJ,hxs,dif_pos] at this
  have h' :(ow[x]).isNone=false:=this
  cases q:ow[x] with
  | none=>replace h' :=q▸h';exact (v8 h').elim
  | some y=>exact ⟨y,ae (cq hxs) (ah q rfl)⟩
 refine ⟨j,ae (Aj ..) hf,ae Array.size_setIfInBounds O.sz,λ x i hx=>?_,λ i hi=>?_,λ x x' i hx hx' =>?_⟩
 ·replace hx:=(hset ..)▸hx
  split at hx
  ·rename_i ejx;subst ejx;have UB:=sI hx;clear hx;have UQ:=sI UB;clear UB;subst UQ
   exact ⟨aK _,h,hk,pre,post,e,λ q=>(by refine aS (hpre j q) λ y hy=>?_;replace hy:=hjn▸hy;have UC:=sI hy;clear hy;exact (hV UC).elim),λ x hx=>(aS (hpre x hx) λ y hy=>⟨y,hold _ _ hy⟩)⟩
  ·obtain ⟨h1,hh,h2,Z4,YZ,h3,h4,h5⟩:=O.at_ x i hx
   exact ⟨jg h1,hh,h2,Z4,YZ,h3,h4,λ x hx=>(aS (h5 x hx) λ y hy=>⟨y,hold _ _ hy⟩)⟩
 ·clear hk;rcases qD (aQ hi) with rfl | hi
  ·exact ⟨j,ae (hset ..) (ae (if_pos rfl) rfl)⟩
  ·exact aS (O.all i hi) λ x hx=>⟨x,hold _ _ hx⟩
 ·rw [hset] at hx hx'
  split at hx<;>split at hx'
  ·rename_i e1 e2;exact sV e1 (dt e2 rfl)
  ·have UF:=sI hx;clear hx;have UT:=sI UF;clear UF;subst UT;exact absurd (O.at_ x' k hx').1 (cC _)
  ·have UP:=sI hx';clear hx';have U9:=sI UP;clear UP;subst U9;exact absurd (O.at_ x k hx).1 (cC _)
  ·exact O.one x x' i hx hx'
end
section
open PySem.SetTable
theorem wE{mask:Nat}(hz:hs.length<=mask+1)(hc:∀h∈hs,∀j,j<=mask->j∈lj mask h):∀(r:List Int) (ow:Array (Option Nat)) (k:Nat),Ow mask hs ow k->hs.drop k=r->
  ∃Zn,r.foldl (λ(Ur:Option (Array (Option Nat)×Nat)) h=>do
   let (owner,k)<-Ur
   let j<-layClean.free mask owner (turns mask) (bits h%(mask+1)) (bits h)
   eu (owner.setIfInBounds j (some k),k+1)) (some (ow,k))=some (Zn,hs.length)/\Ow mask hs Zn hs.length
 | [],ow,k,O,e=>by
  have hk:hs.length<=k:=by
   rcases bV k hs.length with h | h
   ·have:=congrArg lz e
    replace this:=j1▸l8▸this;exact gN this
   ·exact h
  have hk' :k<=hs.length:=by
   rcases bV hs.length k with h | h
   ·refine aS (O.all hs.length h) λ j hj=>?_
    obtain ⟨_,h',h1,_⟩:=O.at_ j _ hj
    replace h1:=bD (aw _)▸h1;exact (bH h1).elim
   ·exact h
  have:k=hs.length:=a_ hk' hk
  clear e hk hk';subst this
  exact bY ow rfl O
 | h::r,ow,k,O,e=>by
  have hkl:k<hs.length:=by
   rcases bV k hs.length with q | q
   ·exact q
   ·replace e:=xJ q▸e;cases e
  have hg:hs[k]? =some h:=by
   have:=congrArg List.head? e
   replace this:=sQ▸this;simpa using this
  exact aH (O.step hg (aQ (ai hkl hz)) (hc h (am hg))) λ j hj O' =>(ah fC (((ah hj (wE hz hc r _ (k+1) O' (ae List.drop_add_one_eq_tail_drop (ah e rfl)))):∃Zn,r.foldl _ (layClean.free mask ow (turns mask) (bits h%(mask+1)) (bits h)>>=λ j=>eu (ow.setIfInBounds j (some k),k+1))=_/\_)))
noncomputable def gW(ow:Array (Option Nat))(l:List Nat):List (Nat×Nat):=l.filterMap λ j=>(ow.getD j none).map (j,·)
theorem rR(ow:Array (Option Nat)):∀l:List Nat,((gW ow l).map (·.1)).Sublist l
 | []=> .slnil
 | a::l=>by
  have ih:=rR ow l
  unfold gW at ih⊢
  refine ah dO ?_
  cases ow.getD a none with
  | none=>exact ih.cons _
  | some i=>exact ih.cons_cons a
theorem mR:q∈gW ow l↔q.1∈l/\ow[q.1]? =some (some q.2):=by
 unfold gW
 refine gk CO ?_
 have hg:∀(j i:Nat),ow.getD j none=some i↔ow[j]? =some (some i):=λ j i=>by
  by_cases h:j<ow.size
  ·simp only [fJ,h,dif_pos]
   exact ah (cq h) ⟨λ e=>congrArg some e,λ e=>bq e⟩
  ·simp only [fJ,h,dif_neg,not_false_eq_true]
   exact ah (xB (b0 h)) ⟨λ e=>((bH e).elim),λ e=>(bH e).elim⟩
 constructor
 ·intro Uv;refine aH Uv λ j hj e=>?_;clear Uv
  refine aH (aX.mp e) λ i hi Uy=>?_;subst Uy
  exact ⟨hj,(hg j i).mp hi⟩
 ·intro UB;refine aP UB λ h1 h2=>?_;clear UB
  exact bY q.1 h1 (ah ((hg _ _).mpr h2) rfl)
theorem DV{mask:Nat}{k:Nat}(O:Ow mask hs ow k){l:List Nat}(hl:l.Nodup):((gW ow l).map (·.2)).Nodup:=by
 induction l with
 | nil=>exact eJ
 | cons a l ih=>
  refine aP (aY.mp hl) λ h1 h2=>?_
  have e:gW ow (a::l)=match ow.getD a none with | none=>gW ow l | some i=>(a,i)::gW ow l:=by
   unfold gW;refine ae dO ?_;cases ow.getD a none<;>rfl
  cases hg:ow.getD a none with
  | none=>exact ah e (ah hg (ih h2))
  | some i=>
   have hm:(a,i)∈gW ow (a::l):=ah e (ah hg (.head _))
   refine ah e (ah hg (aY.mpr ⟨λ q=>(aH (aF.mp q) λ x hx ex=>?_),ih h2⟩))
   have h3:=mR.mp hx
   have h4:=mR.mp hm
   have:x.1=a:=O.one _ _ _ h3.2 (ah ex (h4.2))
   exact h1 (this▸h3.1)
theorem wg{t:jD}{hs:List Int}(hn:sizeAbove n=32)(hz:hs.length<=31)(nd:hs.Nodup)(cv:∀h∈hs,uS h=true):
  ∃t' order,t.relaid hs.toArray n=some (t',order)/\t'.mask=31/\t'.plain=t.plain/\t'.led=t.led/\order.toList.Perm (bk hs.length)/\Tb t' (order.toList.map λ i=>hs.getD i 0):=by
 have hc:∀h∈hs,∀j,j<=31->j∈lj 31 h:=λ h hh j hj=>by
  have:=cv h hh
  unfold uS at this
  exact fk.mp (bZ.mp (bf.mp this).2 j (bK.mpr (bO hj)))
 refine aH (wE (mask:=31) (hs:=hs) (ac hz (af _ _)) hc hs (GK 32 none) 0 (Ow.init 31 hs) rfl) λ ow ho O=>?_
 have hlc:layClean 31 hs.toArray=some ow:=by
  unfold layClean
  rewrite [List.foldl_toArray']
  ·exact ah ho rfl
  ·rfl
 have hrl:t.relaid hs.toArray n=some ({mask:=31,place:=((gW ow (bk 32)).map (·.1)).toArray,dummies:=#[],finger:=t.finger,led:=t.led,moves:=t.movedTo 31,plain:=t.plain},((gW ow (bk 32)).map (·.2)).toArray):=by
  unfold relaid laid
  exact ah hn (((ah hlc rfl):(layClean 31 hs.toArray>>=_)=_))
 have hmem:∀q∈gW ow (bk 32),q.2<hs.length/\∃h,hs[q.2]? =some h/\∃pre post,lj 31 h=pre++q.1::post/\q.1∉pre/\∀x∈pre,∃y,ow[x]? =some (some y):=λ q hq=>O.at_ _ _ (mR.mp hq).2
 have hgd:∀{i:Nat} {h:Int},hs[i]? =some h->hs.getD i 0=h:=λ{i h} e=>ae bu (ah e rfl)
 have hsn:=DV O (g_ (n:=32))
 have hperm:((gW ow (bk 32)).map (·.2)).Perm (bk hs.length):=by
  refine (List.perm_ext_iff_of_nodup hsn g_).mpr λ i=>(gk bK ?_)
  constructor
  ·intro h
   refine aH (aF.mp h) λ q hq UC=>?_;subst UC
   exact (hmem q hq).1
  ·intro h
   refine aS (O.all i h) λ j hj=>?_
   have hjl:j<32:=by
    have:=(gV.mp hj).1
    replace this:=O.sz▸this;exact this
   exact aF.mpr ⟨(j,i),mR.mpr ⟨bK.mpr hjl,hj⟩,rfl⟩
 refine ⟨_,_,hrl,rfl,rfl,rfl,hperm,.inr rfl,rfl,?_,?_,?_,?_,?_,?_⟩
 ·exact ((ae (ag ..) (ah (ag ..) (ah (ag ..) rfl))):((gW ow (bk 32)).map (·.1)).length=(((gW ow (bk 32)).map (·.2)).map _).length)
 ·exact (List.pairwise_lt_range (n:=32)).sublist (rR ow _)
 ·intro j hj
  have:=bK.mp ((rR ow (bk 32)).subset hj)
  exact ((aQ this):j<=31)
 ·refine (?_:(((gW ow (bk 32)).map (·.2)).map _).Nodup)
  unfold gp
  refine gk cE (qF ?_ hsn)
  intro a b ha hb hne e
  refine aH (aF.mp ha) λ q hq UF=>?_;subst UF
  refine aH (aF.mp hb) λ q' hq' UP=>?_;subst UP
  obtain ⟨l1,h,h1,_⟩:=hmem q hq
  obtain ⟨l2,h',h2,_⟩:=hmem q' hq'
  replace e:=hgd h2▸hgd h1▸e
  subst e
  exact hne ((gQ l1 nd).mp (ae h1 (ah h2 rfl)))
 ·intro h hh
  refine aH (aF.mp hh) λ i hi UQ=>?_;subst UQ
  (try clear hh);refine aH (aF.mp hi) λ q hq UT=>?_;subst UT
  obtain ⟨_,h,h1,_⟩:=hmem q hq
  exact ah (hgd h1) (cv h (am h1))
 ·intro p hp
  have e:((gW ow (bk 32)).map (·.1)).zip (((gW ow (bk 32)).map (·.2)).map λ i=>hs.getD i 0)=(gW ow (bk 32)).map λ q=>(q.1,hs.getD q.2 0):=by
   refine ah bI (ae vO ?_);rewrite [dq];rfl
   intro q _;rfl
  have hp' :p∈((gW ow (bk 32)).map (·.1)).zip (((gW ow (bk 32)).map (·.2)).map λ i=>hs.getD i 0):=hp
  replace hp' :=e▸hp'
  (try clear hp);refine aH (aF.mp hp') λ q hq U9=>?_;subst U9
  obtain ⟨_,h,h1,pre,post,h2,h3,h4⟩:=hmem q hq
  refine jG pre post (((ah (hgd h1) h2):lj 31 (hs.getD q.2 0)=_)) h3 (λ x hx=>?_)
  refine aS (h4 x hx) λ y hy=>?_
  have hxl:x<32:=by
   have:=(gV.mp hy).1
   replace this:=O.sz▸this;exact this
  exact aF.mpr ⟨(x,y),mR.mpr ⟨bK.mpr hxl,hy⟩,rfl⟩
end
section
section
variable{prog:Program}{w:jk}{A:eN}{E:Value->aO->Prop}{s:aO}
theorem wh{b:Bool}{Q:Int->aO->Prop}(h:Q (if b then 1 else 0) {s with toks:=s.toks+1}):br (bR prog w) A (pyHash (.bool b)) Q E s:=by
 have hT:s.TypeIs (.bool b) "bool":=rfl
 have key:∀(c:Bool) (k:Int),(k=0\/k=1)->b=c->(if c then (1:Int) else 0)=k->(∀(Q' :PD->aO->Prop) (A' :eN),(∀t,Q' (.done (.ret (.int k t))) {s with toks:=s.toks+1})->br (bR prog w) A' (eU.«int.__hash__» ⟨[.bool c],[]⟩) Q' E s)->br (bR prog w) A (pyHash (.bool b)) Q E s:=λ c k h01 hbc hk W4=>by
  subst hbc
  have hr:-(2:Int)^63<=k/\k<2^63:=by clear W4 hk;rcases h01 with rfl | rfl<;>decide
  unfold pyHash pyHashByItsType
  have hv:[cf b].any Value.onHeap=false:=rfl
  refine aj ?_
  rewrite [cRoomFor];refine ah (if_neg (ah hv c9)) ?_;refine aD (aj (oX hT iR.lookup (((ah (if_neg (by exact ah (beq_builtin_none ..) c9)) ?_):br _ _ (if (some (Value.builtin "int.__hash__")==some gh)=true then _ else _) Q E s))))
  refine aj (oX hT iR.lookup (((aj (wpAny_callSpecialIfBoundUnlessNone?_slot hT iR
   (d6 iR hT entry_int_hash (W4 _ _ λ t=>⟨_,rfl,(((ah (if_pos (ah (decide_eq_true hr.1) (ah (decide_eq_true hr.2) rfl))) ?_):br _ _ (if (decide (-(2:Int)^63<=k)&&decide (k<2^63))=true then _ else _) Q E _))⟩) (args_int_hash _)))):br _ _ (callSpecialIfBoundUnlessNone? (.bool b) "__hash__" _>>=_) Q E s)))
  replace h:=hk▸h
  refine aD ?_
  clear W4 hk hr;rcases h01 with rfl | rfl<;>exact h
 obtain ⟨hp,g,d,tk,os⟩:=s
 clear h hT;cases b
 ·refine key false 0 (.inl rfl) rfl rfl λ Q' A' hq=>?_
  unfold eU.«int.__hash__» tz
  wp_walk
  exact hq _
 ·refine key true 1 (.inr rfl) rfl rfl λ Q' A' hq=>?_
  unfold eU.«int.__hash__» tz
  wp_walk
  exact hq _
theorem qT{Q:Bool->aO->Prop}(h:Q (a==b) s):br (bR prog w) A (eqBool (.bool a) (.bool b)) Q E s:=
 (ot (A:=A) (s:=s) a b) prog w _ _ h
noncomputable def Pd(b:Bool)(v:Value):Bool:=match v with
 | .bool c=>b==c
 | _=>false
theorem i_(h:Pd b v=true):v=.bool b:=by
 cases v with
 | bool c=>exact ah (df h) rfl
 | _=>exact (iP h).elim
noncomputable def eQ(prog:Program)(w:jk):KeyKind prog w Bool where
 is:=Pd
 hash:=λ b=>if b then 1 else 0
 inj:=λ v a b ha hb=>by
  replace hb:=i_ ha▸hb;have:=i_ hb;injection this
 byValue:=λ k v h=>ah (i_ h) rfl
 pyHash:=λ hv h=>ah (i_ hv) (wh h)
 eqBool:=λ{A E s a b u v Q} hu hv h=>by
  refine ah (i_ hu) (ah (i_ hv) (qT ?_))
  have:(a==b)=decide (a=b):=by clear h hu hv;cases a<;>cases b<;>rfl
  exact ah this h
 «strs»:=λ k x t v h=>(iP h).elim
end
end
section
open PySem.SetTable
noncomputable abbrev TL:=List (List Bool×Addr)
noncomputable def nG(es:TL):List Int:=es.map λ e=>jO e.1
noncomputable def dF(es:TL):List (Int×Value):=es.map λ e=>(jO e.1,.ref e.2)
noncomputable def vj(w:jk)(k:Nat)(o:Obj)(es:TL):Prop:=∃ep t,o={cls:=.type "set",dict:=none,data:=.set (dF es).toArray ep t,slots:=#[]}/\t.plain=true/\t.led=!(w.params.followText "set-order")/\Tb t (nG es)/\
 (∀e∈es,e.1.length=k)/\(es.map (·.1)).Nodup/\es.length*5<t.mask*3
section
variable{prog:Program}{w:jk}{A:eN}{E:Value->aO->Prop}{s:aO}{k:Nat}{o:Obj}{es:TL}{a x:Addr}{bs:List Bool}
theorem qM{Q:Bool->aO->Prop}(hk:eM (eQ prog w) s.heap bs x)(h:Q false s):br (bR prog w) A (tn 8 (.ref x)) Q E s:=by
 have hT:=hk.typeIs
 refine r_ hk λ o items n ho V hd hi=>?_;clear hk
 unfold tn
 refine aj (F5 hT ?_)
 dsimp only
 refine aj (aD ?_)
 simp only [lH,aV,if_false]
 refine aj (gr ho hd (aj (((dt CC (nY _ (λ rest r s' =>r.1=none/\s' =s/\∀v∈rest,carriedByValue v=true) _ ?_ ?_ _ _ ⟨rfl,rfl,hi.byValue⟩)):br _ _ (RK items _ _) _ _ s))))
 ·clear h hT ho;intro v rest r s' Uv;refine ck Uv λ hr Vk hall=>?_;clear Uv;subst Vk
  have hv:=hall v kO
  have e:tn 7 v=eu false:=by (try clear hall);cases v<;>first | rfl | exact (iP hv).elim
  refine ah e (aj (aD ?_))
  simp only [aV,if_false]
  exact aD ⟨rfl,rfl,λ u hu' =>hall u (gX _ hu')⟩
 ·clear hT ho;intro Uy s' UB;obtain ⟨r1,r2⟩:=Uy;refine ck UB λ hr Vg V=>?_;clear UB;subst Vg
  simp only at hr
  subst hr
  exact aD h
theorem Dv{Q:Bool->aO->Prop}(hk:eM (eQ prog w) s.heap bs x)(hy:∀y∈ys,∃b c,y=.ref b/\eM (eQ prog w) s.heap c b)(h:Q false s):br (bR prog w) A (LY (.ref x) ys) Q E s:=by
 unfold LY
 refine aj (nY _ (λ rest r s' =>r.1=none/\s' =s/\∀v∈rest,v∈ys) _ ?_ ?_ _ _ ⟨rfl,rfl,λ v hv=>hv⟩)
 ·(try clear h);intro v rest UC s' UF;obtain ⟨r1,r2⟩:=UC;refine ck UF λ hr Vs hall=>?_;clear UF;subst Vs
  simp only at hr
  subst hr
  have next:∀u∈rest,u∈ys:=λ u hu=>hall u (gX _ hu)
  refine cu (hy v (hall v kO)) λ b c UP hb=>?_;subst UP
  dsimp only
  refine kZ (λ V=>aD ⟨rfl,rfl,next⟩) λ V=>(aj (Gs hk ?_))
  simp only [lH,aV,if_false]
  refine aj (Gs hb ?_)
  simp only [lH,aV,if_false]
  refine aj (qM hk ?_)
  simp only [aV,if_false]
  refine aj (qM hb ?_)
  simp only [aV,if_false]
  exact aD ⟨rfl,rfl,next⟩
 ·clear hk hy;intro UQ s' UT;obtain ⟨r1,r2⟩:=UQ;refine ck UT λ hr Vr V=>?_;clear UT;subst Vr
  simp only at hr
  subst hr
  exact aD h
theorem El{Q:Bool->aO->Prop}(hk:eM (eQ prog w) s.heap bs x)(h:Q true s):br (bR prog w) A (IJ 8 (.ref x)) Q E s:=by
 have hT:=hk.typeIs
 refine r_ hk λ o items n ho V hd hi=>?_;clear hk
 have hall:∀v∈items.toList,∃b,v=.bool b:=by
  clear hd ho
  generalize items.toList=l at hi
  induction hi with
  | nil=>intro v hv;cases hv
  | cons h1 _ ih=>
   intro v hv
   rcases aM.mp hv with rfl | hv
   ·exact ⟨_,i_ h1⟩
   ·exact ih v hv
 unfold IJ
 refine aj (oX hT PySem.F.slot_tuple_hash.lookup ?_)
 dsimp only
 refine aj (gr ho hd (aj (((dt CC (nY _ (λ rest r s' =>r.1=none/\s' =s/\∀v∈rest,∃b,v=.bool b) _ ?_ ?_ _ _ ⟨rfl,rfl,hall⟩)):br _ _ (RK items _ _) _ _ s))))
 ·clear h hT ho;intro v rest r s' U9;refine ck U9 λ hr Vq hall=>?_;clear U9;subst Vq
  refine aS (hall v kO) λ b UM=>?_;subst UM
  have e:IJ 7 (.bool b)=eu true:=rfl
  refine ah e (aj (aD ?_))
  simp only [lH,aV,if_false]
  exact aD ⟨rfl,rfl,λ u hu' =>hall u (gX _ hu')⟩
 ·clear hT ho;intro UW s' UV;obtain ⟨r1,r2⟩:=UW;refine ck UV λ hr VL V=>?_;clear UV;subst VL
  simp only at hr
  subst hr
  exact aD h
theorem Hm{i:Nat}(h:es[i]? =some e):(nG es)[i]? =some (jO e.1):=by unfold nG;exact ae ay (ah h rfl)
theorem fZ:(nG es).length=es.length:=ag ..
theorem Ev:(dF es).map (·.1)=nG es:=by unfold dF nG;exact ae bI rfl
theorem zW(h1:1<=k)(h4:k<=4)(hl:∀e∈es,e.1.length=k)(hb:bs.length=k):jO bs∈nG es↔bs∈es.map (·.1):=by
 unfold nG
 refine gk aF (gk aF ?_)
 constructor
 ·intro U8;refine aH U8 λ e he q=>?_;clear U8;exact bY e he (Fj h1 h4 (hl e he) hb q)
 ·(try clear hb);intro U7;refine aH U7 λ e he Z0=>?_;clear U7;subst Z0;exact bY e he rfl
theorem qk(h4:k<=4)(hl:∀e∈es,e.1.length=k)(hn:(es.map (·.1)).Nodup):es.length<=16:=by
 have:=jl (ls:=allB k) hn λ b hb=>by
  refine aH (aF.mp hb) λ e he Ve=>?_;subst Ve
  exact (mP k _).mpr (hl e he)
 replace this:=(wC ..)▸(ag ..)▸this
 have:2^k<=2^4:=fG (dN _) h4
 exact ac (by assumption) this
end
end
section
open PySem.SetTable
section
variable{prog:Program}{w:jk}{A:eN}{E:Value->aO->Prop}{s:aO}{k:Nat}{o:Obj}{es:TL}{a x:Addr}{bs:List Bool}
theorem Hs(T:Tb t hs):t.gaveWay=false:=by
 unfold Uf
 rcases T.msk with e | e<;>refine ah e ?_<;>rfl
theorem vj.room(h4:k<=4)(T:Tb t (nG es))(hl:∀e∈es,e.1.length=k)(hn:(es.map (·.1)).Nodup)(hr:es.length*5<t.mask*3):es.length<=t.mask:=by
 have:=qk h4 hl hn
 rcases T.msk with e | e<;>rw [e] at hr⊢<;>lia
theorem rX{i:Nat}(h:es[i]? =some e):(dF es).toArray[i]? =some (jO e.1,.ref e.2):=by
 refine ae jq ?_;unfold dF;exact ae ay (ah h rfl)
theorem yi{Q:SetFound->aO->Prop}{ep:Nat}(hu:A.units<CJ)(h1:1<=k)(h4:k<=4)(ho:s.heap.get? a=some {cls:=.type "set",dict:=none,data:=.set (dF es).toArray ep t,slots:=#[]})(T:Tb t (nG es))(hl:∀e∈es,e.1.length=k)(hn:(es.map (·.1)).Nodup)(hr:es.length*5<t.mask*3)
  (hk:eM (eQ prog w) s.heap bs x) (hb:bs.length=k) (hes:∀e∈es,eM (eQ prog w) s.heap e.1 e.2)
  (hin:bs∈es.map (·.1)->Q (.there none) s) (hout:bs∉es.map (·.1)->∀j,(j∉t.place.toList/\j<=t.mask/\∃pre post,lj t.mask (jO bs)=pre++j::post/\j∉pre/\∀x∈pre,x∈t.place.toList)->Q (.free j false) s):
  br (bR prog w) A (setSearch a (.ref x) (jO bs) true) Q E s:=by
 have Vf:=vj.room h4 T hl hn hr
 have hfit:t.fits (dF es).toArray.size=true:=by
  have:(dF es).toArray.size=(nG es).length:=by simp [dF,nG]
  exact ah this (T.fits (ah fZ Vf))
 have hff:∀(f:Nat->Int),(∀i,f i=((dF es).toArray[i]?.map (·.1)).getD 0)->∀i h,(nG es)[i]? =some h->f i=h:=λ f hf i h e=>by
  unfold nG at e
  replace e:=ay▸e
  refine aH (aX.mp e) λ q hq Uv=>?_;subst Uv
  exact ae (hf ..) (ah (rX hq) rfl)
 refine aj (e_ ho rfl hfit ?_)
 dsimp only
 refine ah (Hs T) ?_
 simp only [aV,if_false,Option.getD_none]
 by_cases hm:bs∈es.map (·.1)
 ·clear hb hout;refine aH (aF.mp hm) λ e he Uy=>?_;subst Uy
  refine aS (aL.mp he) λ i hi=>(cu (T.found (hff _ λ V=>rfl) (Hm hi)) λ j nx hp hj=>?_)
  generalize hg:t.probe _ (jO e.1) (t.probeStart (jO e.1))=r
  obtain rfl:r=some (.candidate j i nx):=sV hg hp
  dsimp only
  cases hld:t.led with
  | true=>
   simp only [lH,aV,if_false]
   refine ah (rX hi) ?_
   dsimp only
   refine aj (cR (Lr hu (hes e he) hk (aj (e_ ho rfl hfit ?_))))
   simp only [decide_true,vU,if_true]
   exact aD (hin hm)
  | false=>
   simp only [oB,if_true]
   refine aj (Dv hk (λ y hy=>?_) ?_)
   ·refine aH (aF.mp hy) λ q hq UB=>?_;subst UB
    have hq' :q∈dF es/\q.1=jO e.1:=by simpa using hq
    clear hq hy;refine aH (aF.mp hq'.1) λ e' he' UC=>?_;subst UC
    exact ib e'.2 e'.1 rfl (hes e' he')
   simp only [aV,if_false]
   refine ah (rX hi) ?_
   dsimp only
   refine aj (cR (Lr hu (hes e he) hk (aj (e_ ho rfl hfit ?_))))
   simp only [decide_true,vU,if_true]
   exact aD (hin hm)
 ·refine aH (T.free (ah fZ Vf) (hff _ λ V=>rfl) (λ q=>hm ((zW h1 h4 hl hb).mp q)) (Av h1 h4 hb)) λ j hp hj=>?_
  generalize hg:t.probe _ (jO bs) (t.probeStart (jO bs))=r
  obtain rfl:r=some (.empty j none):=sV hg hp
  exact aD (hout hm j hj)
theorem cB:(dF es).toArray.size=es.length:=by simp [dF]
theorem Hi(xs:TL)(p:Nat)(x:List Bool×Addr):insertAt (dF xs).toArray p (jO x.1,.ref x.2)=(dF (xs.take p++x::xs.drop p)).toArray:=by
 apply rj.mp
 refine ae (n_ ..) ?_
 simp [dF]
theorem GZ(xs:TL)(order:Array Nat)(hp:∀i∈order.toList,i<xs.length):order.filterMap ((dF xs).toArray[·]?)=(dF (order.toList.filterMap (xs[·]?))).toArray:=by
 apply rj.mp
 refine ae Array.toList_filterMap ?_
 have e:(λ(i:Nat)=>(dF xs).toArray[i]?)=λ(i:Nat)=>(xs[i]?).map λ(e:List Bool×Addr)=>(jO e.1,aZ e.2):=by
  funext i
  refine ae jq ?_;unfold dF;exact ae ay rfl
 exact ah e (((ah CP rfl):_=l7 _ _))
theorem yh{Q:Bool->aO->Prop}(hu:A.units<CJ)(h1:1<=k)(h4:k<=4)(ho:s.heap.get? a=some o)(TO:vj w k o es)
  (hk:eM (eQ prog w) s.heap bs x) (hb:bs.length=k) (hes:∀e∈es,eM (eQ prog w) s.heap e.1 e.2)
  (h:∀b h' tk o' Zk,s.toks<=tk->ff a s.heap h' ->h'.get? a=some o' ->vj w k o' Zk ->(bs∈es.map (·.1)->Zk =es)->(bs∉es.map (·.1)->Zk.Perm ((bs,x)::es))->Q b {s with heap:=h',toks:=tk}):
  br (bR prog w) A (setAdd a (.ref x)) Q E s:=by
 refine wP (id TO) λ ep t UF tp tl T hl hn hr=>?_;subst UF
 have Vf:=vj.room h4 T hl hn hr
 have Yj:=qk h4 hl hn
 have hfit:t.fits (dF es).toArray.size=true:=ah cB (dt fZ (T.fits (ah fZ Vf)))
 unfold setAdd
 refine cR (aj (wpAny_pyHash_tuple hu hk (?_:br _ _ (TD a (.ref x) (jO bs)) _ _ _)))
 unfold TD
 refine cR ?_
 unfold setAddHashedIn
 refine aj (e_ (s:={s with toks:=s.toks+(bs.length+1)}) ho rfl hfit ?_)
 dsimp only
 have hbs:byScan (.ref x) (dF es).toArray=false:=rfl
 refine ah hbs ?_
 simp only [aV,if_false]
 refine aj (yi (s:={s with toks:=s.toks+(bs.length+1)}) hu h1 h4 ho T hl hn hr hk hb hes (λ hm=>?_) (λ hm j hj=>?_))
 ·exact aD (h false s.heap _ _ es (ax _ _) (PH _ _) ho TO (λ V=>rfl) (λ q=>absurd hm q))
 ·dsimp only
  refine aj (e_ (s:={s with toks:=s.toks+(bs.length+1)}) ho rfl hfit ?_)
  have hh:jO bs∉nG es:=λ q=>hm ((zW h1 h4 hl hb).mp q)
  have hc:=Av h1 h4 hb
  refine Op (T.put hj.1 hj.2.1 hh hc hj.2.2) λ p hp hpl T2 m2 p2 l2=>?_
  have e2:nG (es.take p++(bs,x)::es.drop p)=(nG es).take p++jO bs::(nG es).drop p:=by simp [nG]
  replace T2:=dc e2▸T2
  have hperm:(es.take p++(bs,x)::es.drop p).Perm ((bs,x)::es):=pA _ _ _
  have hl2:∀e∈es.take p++(bs,x)::es.drop p,e.1.length=k:=λ e he=>by
   rcases nD.mp he with rfl | he
   ·exact hb
   ·exact hl e he
  have hn2:((es.take p++(bs,x)::es.drop p).map (·.1)).Nodup:=(hperm.map _).nodup_iff.mpr (aY.mpr ⟨hm,hn⟩)
  have hlen:(es.take p++(bs,x)::es.drop p).length=es.length+1:=hperm.length_eq
  clear e2 hpl;generalize hput:t.put j=r at*
  obtain ⟨t2,p'⟩:=r
  simp only at hp T2 m2 p2 l2⊢
  subst hp
  refine ah (p2.trans tp) ?_
  simp only [if_true]
  refine aj (El (s:={s with toks:=s.toks+(bs.length+1)}) hk ?_)
  simp only [if_true]
  refine ah (show insertAt (dF es).toArray p' (jO bs,.ref x)=(dF (es.take p' ++(bs,x)::es.drop p')).toArray from Hi es p' (bs,x)) ?_
  generalize es.take p' ++(bs,x)::es.drop p' =Vd at*
  have h16b:Vd.length<=16:=qk h4 hl2 hn2
  refine aj (LV (s:={s with toks:=s.toks+(bs.length+1)}) ho rfl ?_ (ah cB (ah b_ (ac h16b (af _ _)))))
  have hs1:=dI s.heap a (gZ (dF Vd).toArray t2)
  have hg1:(s.heap.update a (gZ (dF Vd).toArray t2)).get? a=some {cls:=.type "set",dict:=none,data:=.set (dF Vd).toArray (ep+1) t2,slots:=#[]}:=by
   have:=fu (gZ (dF Vd).toArray t2) ho (ah (CF (dF Vd).toArray t2 rfl) rfl)
   rewrite [CF (dF Vd).toArray t2 rfl] at this;exact this
  have hroom2:(nG Vd).length<=t2.mask:=by
   refine ah fZ (ah hlen (ah m2 ?_))
   rcases T.msk with e | e<;>rw [e] at hr⊢<;>lia
  have full:=T2.full
  replace full:=fZ▸full
  refine ah full ?_
  by_cases hfull:Vd.length*5>=t2.mask*3
  ·refine ah (decide_eq_true hfull) ?_
   simp only [oB,vU,if_true]
   have h5:es.length=4:=by
    replace hfull:=m2▸hlen▸hfull
    rcases T.msk with e | e<;>rw [e] at hr hfull<;>lia
   refine Jn (wg (t:=t2) (hs:=nG Vd) (n:=grown ((dF es).toArray.size+1)) (by refine ah cB (ah h5 ?_);decide) (ah fZ (ac h16b (af _ _))) T2.nd T2.cv) λ t3 order hrl m3 p3 l3 WU T3=>?_
   unfold setRelay
   refine aj (aj (e_ (s:={s with heap:=s.heap.update a (gZ (dF Vd).toArray t2),toks:=s.toks+(bs.length+1)}) hg1 rfl (ah cB (dt fZ (T2.fits hroom2))) ?_))
   dsimp only
   have hsz:¬sizeAbove (grown ((dF es).toArray.size+1))>sizeLine:=by refine ah cB (ah h5 (ah b_ ?_));decide
   refine ah (if_neg hsz) ?_
   have hmap:(dF Vd).toArray.map (·.1)=(nG Vd).toArray:=ae List.map_toArray (ah Ev rfl)
   refine ah hmap ?_
   generalize hq:t2.relaid (nG Vd).toArray (grown ((dF es).toArray.size+1))=r at hrl⊢
   (try clear hq);subst hrl
   have hob:∀i∈order.toList,i<Vd.length:=λ i hi=>by
    have:=bK.mp (WU.mem_iff.mp hi)
    rwa [fZ] at this
   have YH:=GZ Vd order hob
   have hmapo:order.toList.filterMap (Vd[·]?)=order.toList.map λ i=>Vd.getD i ([],0):=by
    clear YH T3 WU
    generalize order.toList=l at hob
    induction l with
    | nil=>rfl
    | cons i l ih=>
     have hi:=hob i (.head _)
     refine ae dO (ah (aB hi) (ah (ih λ j hj=>hob j (.tail _ hj)) (ah aU ?_)))
     congr 1
     exact ah bu (ah (aB hi) rfl)
   have hperm3:(order.toList.filterMap (Vd[·]?)).Perm Vd:=by
    have e:=TQ (λ i=>Vd[i]?) WU
    replace e:=fZ▸e
    exact e.trans (by rw [List.filterMap_getElem?_range_length])
   have hhs3:nG (order.toList.filterMap (Vd[·]?))=order.toList.map λ i=>(nG Vd).getD i 0:=by
    refine ah hmapo ?_
    unfold nG
    refine ae bI (dq λ i hi=>?_)
    have:=hob i hi
    refine (?_:jO (Vd.getD i ([],0)).1=_)
    exact ah bu (ah bu (ah ay (ah (aB this) rfl)))
   replace T3:=dc hhs3▸T3
   generalize order.toList.filterMap (Vd[·]?)=es3 at*
   have WY:=hperm3.length_eq
   refine aj ?_
   refine (?_:br _ _ (if ((order.filterMap ((dF Vd).toArray[·]?)).size !=(dF Vd).toArray.size)=true then _ else _) _ _ _)
   refine ah YH (ah cB (ah cB (ah WY (ah (bne_self_eq_false ..) ?_))))
   simp only [aV,if_false]
   refine aD ?_
   dsimp only
   refine LV (s:={s with heap:=s.heap.update a (gZ (dF Vd).toArray t2),toks:=s.toks+(bs.length+1)}) hg1 rfl ?_ (by refine ah cB (ah b_ ?_);exact ac (aC WY) (ac h16b (af _ _)))
   have hs3:=dI (s.heap.update a (gZ (dF Vd).toArray t2)) a (gZ (dF es3).toArray t3)
   have hg3:((s.heap.update a (gZ (dF Vd).toArray t2)).update a (gZ (dF es3).toArray t3)).get? a=some {cls:=.type "set",dict:=none,data:=.set (dF es3).toArray (ep+1+1) t3,slots:=#[]}:=by
    have:=fu (gZ (dF es3).toArray t3) hg1 (by refine ah (CF (dF es3).toArray t3 rfl) ?_;rfl)
    rewrite [CF (dF es3).toArray t3 rfl] at this;exact this
   refine aD (h true _ _ _ es3 (ax _ _) (hs1.trans hs3) hg3 ⟨_,t3,rfl,p3.trans (p2.trans tp),l3.trans (l2.trans tl),T3,λ e he=>hl2 e (hperm3.mem_iff.mp he),(hperm3.map _).nodup_iff.mpr hn2,by refine ah m3 ?_;exact MO hlen WY Yj⟩ (λ q=>absurd q hm) λ V=>hperm3.trans hperm)
  ·refine ah (decide_eq_false hfull) ?_
   simp only [oB,Bool.and_false,aV,if_false]
   exact aD (h true _ _ _ Vd (ax _ _) hs1 hg1 ⟨_,t2,rfl,p2.trans tp,l2.trans tl,T2,hl2,hn2,gc hfull⟩ (λ q=>absurd q hm) λ V=>hperm)
end
end
section
section
variable{prog:Program}{w:jk}{A:eN}{R:Result->aO->Prop}{I:Addr}{fp wr:List Addr}{G:Array GenState->Array GenState->Prop}{n:Nat}{P:Nat->Value->Prop}{St:Nat->aO->Prop}{k:Nat}
theorem ru(hk:eM (eQ prog w) h bs x)(e:∀o,h.get? x=some o->h'.get? x=some o):eM (eQ prog w) h' bs x:=
 let ⟨o,it,n,ho,r⟩:=hk;⟨o,it,n,e o ho,r⟩
noncomputable def FW(w:jk)(k:Nat)(items:TL)(i:Nat)(h:Heap)(S:Addr):Prop:=∃o es,h.get? S=some o/\vj w k o es/\(∀b,b∈es.map (·.1)↔b∈(items.take i).map (·.1))/\∀e∈es,e∈items
theorem uk(W:WalksS prog w A.in1 I fp wr G n P St)(hu:A.in1.units<CJ)(h1:1<=k)(h4:k<=4)(S:Addr)(hSf:S∉fp)(items:TL)(hn:items.length=n)(Z9:∀i v,P i v->∃e,items[i]? =some e/\v=.ref e.2)
  (hlen:∀e∈items,e.1.length=k) (Vl:∀e∈items,e.2≠S/\e.2∉wr):
  ∀(j i:Nat) (s:aO),n-i=j->i<=n->St i s->FW w k items i s.heap S->(∀e∈items,eM (eQ prog w) s.heap e.1 e.2)->
   (∀s',Moved (S::wr) G s s' ->FW w k items n s'.heap S->R (.ok (.ret .none)) s')->
   iZ (bR prog w) A (.builtin "set.update.loop" ⟨[.ref S,.ref I],[]⟩) R s:=by
 have hSw:S∉wr:=λ h=>hSf (W.sub _ h)
 have hsub:∀b∈wr,b∈S::wr:=λ b hb=>gX _ hb
 intro j
 (try clear hn);induction j with
 | zero=>
  intro i s hk hi XC hS ht hR
  have hin:i=n:=a_ hi (gN hk)
  clear hi hk;subst hin
  exact oZ lD (ah (nT gA _) (((aj (W.done s _ _ XC λ s' hm=>(((aD (hR s' (hm.mono hsub) (by
   refine cu hS λ o es ho rest=>?_;clear hS
   exact ib o es (hm.heap S _ hSw ho) rest))):br _ A.in1 (ret gh) _ _ s')))):br _ A.in1 (jf (.ref I)>>=_) _ _ s)))
 | succ j ih=>
  intro i s hk hi XC hS ht hR
  have hlt:i<n:=AR hk
  refine oZ lD (ah (nT gA _) (((aj (W.item i s _ _ hlt XC λ v s' hP hst' hm=>(aH (Z9 i v hP) λ e he Uv=>?_))):br _ A.in1 (jf (.ref I)>>=_) _ _ s)));subst Uv
  have hem:=am he
  have ht' :∀e∈items,eM (eQ prog w) s'.heap e.1 e.2:=λ e he=>ru (ht e he) λ o q=>hm.heap _ _ (Vl e he).2 q
  refine jo hS λ o es ho hT hmem hin=>?_;clear hS
  have ho' :=hm.heap S _ hSw ho
  refine ((aj (cR (yh hu h1 h4 ho' hT (ht' e hem) (hlen e hem) (λ q hq=>ht' q (hin q hq)) λ b h' tk o2 Vd htk Zy hg ZM ha hb=>?_))):br _ A.in1 (fF [aZ e.2] (setAdd S (.ref e.2))>>=_) _ _ s')
  refine aD ⟨SF gA _,ih (i+1) _ (congrArg TP hk) hlt (W.frame _ s' _ _ hst' htk λ b hb o e=>?_) ⟨o2,Vd,hg,ZM,λ b=>?_,λ q hq=>?_⟩ (λ q hq=>ru (ht' q hq) λ o e=>(Zy.2 _ (Vl q hq).1).trans e) λ Zm hm'' hS'' =>?_⟩
  ·refine ah (Zy.2 b (λ h:b=S=>hSf (by refine dt h ?_;exact hb))) ?_;exact e
  ·refine ah bw (ah he (ah aE (gk az ?_)));rewrite [<-hmem]
   by_cases hx:e.1∈es.map (·.1)
   ·refine ah (ha hx) ?_
    constructor
    ·exact .inl
    ·rintro (h | h)
     ·exact h
     ·have:b=e.1:=by simpa using h
      refine ah this ?_;exact hx
   ·refine gk (((hb hx).map _).mem_iff) (ah aU (gk aM ?_))
    constructor
    ·rintro (h | h)
     ·exact .inr (by refine ah h ?_;simp)
     ·exact .inl h
    ·rintro (h | h)
     ·exact .inr h
     ·exact .inl (by simpa using h)
  ·by_cases hx:e.1∈es.map (·.1)
   ·replace hq:=ha hx▸hq;exact hin q hq
   ·rcases aM.mp ((hb hx).mem_iff.mp hq) with rfl | hq
    ·exact hem
    ·exact hin q hq
  ·refine hR Zm (Moved.trans W.gtrans ((hm.mono hsub).then_heap htk λ b o hb e=>?_) hm'') hS''
   refine ah (Zy.2 b (λ h:b=S=>hb (by refine ah h ?_;exact kO))) ?_;exact e
end
section
variable{prog:Program}{w:jk}{A:eN}{E:Value->aO->Prop}{s:aO}{k:Nat}
theorem Bo(a:Value){Q1:Value->aO->Prop}
  (h:Q1 (.ref s.heap.objs.size) {s with heap:=s.heap.push {cls:=.type "set",dict:=none,data:=.set #[] 0 (.fresh 0 0 (!w.params.followText "set-order"))}}):
  iZ (bR prog w) A (.call (.builtin "set.__new__") ⟨[.type "set",a],[]⟩) (RD Q1 E) s:=by
 refine oY (((aj (T4 (PySem.F.newCall_set_1 a) (aD ⟨SF vN _,oZ PySem.F.entry_set_new (ah (nT vN _) ?_)⟩))):br _ A.in1 (do OZ "set.__new__" ⟨[.type "set",a],[]⟩;again (.builtin "set.__new__" ⟨[.type "set",a],[]⟩)) _ _ s))
 unfold eU.«set.__new__» IU
 have hsub:=sub_set_self
 obtain ⟨hp,g,d,tk,os⟩:=s
 dsimp only
 wp_walk
 refine gu (aD ?_)
 dsimp only
 simp only [newObj]
 exact aj (T7 (aD (aD h)))
theorem vj.fresh(w:jk)(k:Nat):vj w k {cls:=.type "set",dict:=none,data:=.set #[] 0 (.fresh 0 0 (!w.params.followText "set-order")),slots:=#[]} []:=
 ⟨0,_,rfl,rfl,rfl,Tb.fresh _ _ _,(λ e h=>by cases h),eJ,((dN _):0*5<7*3)⟩
theorem uW{Q Q1:Value->aO->Prop}(ft:TypeCalled T newId initId)
  (hct:checkTypeCall T ⟨args,[]⟩=eu ()) (X8:IK table initId=some Bi)
  (hnew:iZ (bR prog w) A.in1 (.call (.builtin newId) ⟨.type T::args,[]⟩) (RD Q1 E) s)
  (Wi:∀(M:Model) (A' :eN) (E' :Value->aO->Prop) (s' :aO) (Q' :Unit->aO->Prop) fS,s'.TypeIs fS T->Q' () s' ->br M A' (OZ initId ⟨fS::args,[]⟩) Q' E' s')
  (Y2:∀fS s₁,Q1 fS s₁->s₁.TypeIs fS T/\
   br (bR prog w) A.in1.in1 (Bi ⟨fS::args,[]⟩)
    (λ fin s' =>match fin with | .done f=>RD (λ r s₂=>r=.none/\Q fS s₂) E (.ok f) s' | .again c' =>c'.quiet=true/\iZ (bR prog w) A.in1 c' (RD (λ r s₂=>r=.none/\Q fS s₂) E) s')
    (λ e s' =>RD (λ r s₂=>r=.none/\Q fS s₂) E (.error e) s') s₁):
  br (bR prog w) A (call (.type T) args) Q E s:=by
 refine fM ft.mro λ c tl hmro=>?_
 have hmade:=ft.made
 have hsub:=ft.sub
 refine Lu (oY (((aD ⟨Code.quiet_builtin _ (by decide+kernel),oZ PySem.F.entry_type_call (ah (Around.under_plain (weight_type_call_type T args []) rfl) ?_)⟩):br _ _ (callAny (.type T) _) _ _ _)))
 have h1:=ft.notType
 have h2:=ft.canCreate
 repeat (any_goals (first | assumption | wp_step))
 refine eS hnew λ r s₁ hr=>?_
 cases r with
 | error e=>exact hr
 | ok fl=>
  cases fl with
  | ret fS=>
   refine aP (Y2 _ _ hr) λ hT hsi=>?_
   have hli:=ft.init.lookup
   have hbi:=ft.init.bind fS
   repeat (any_goals (first | assumption | wp_step))
   refine eS (codeAny_call_builtin ft.init.plain X8 (Wi _ _ _ _ _ fS hT hsi)) λ Xr s₂ Wb=>?_
   cases Xr with
   | error e=>exact Wb
   | ok fl2=>
    cases fl2 with
    | ret r=>
     refine aP Wb λ Uy hq=>?_;clear Wb;subst Uy
     repeat (any_goals (first | assumption | wp_step))
    | _=>exact Wb.elim
  | _=>exact hr.elim
theorem ul{Q:PD->aO->Prop}(hT:s.TypeIs (.ref S) "set")(h:br (bR prog w) A c Q E s):br (bR prog w) A (do
  zn (<-SB 200 (.ref S)) 0 1 1
  c) Q E s:=by
 refine aH hT λ o ho hc=>?_;clear hT
 obtain ⟨Z5,XJ,XK,W6⟩:=o
 simp only at hc
 subst hc
 obtain ⟨hp,g,d,tk,os⟩:=s
 have ho' :hp.get? S=some {cls:=.type "set",dict:=XJ,data:=XK,slots:=W6}:=ho
 generalize c=c at h⊢
 wp_walk
 exact h
theorem yF{Q:Bool->aO->Prop}(hT:s.TypeIs (.ref l) "list")(h:Q false s):br (bR prog w) A (n9 (.ref l)) Q E s:=by
 unfold n9 orM
 exact aj (kj (b:=false) hT PySem.F.sub_list_set (kj (b:=false) hT PySem.F.sub_list_frozenset h))
theorem sX{R:Result->aO->Prop}(hu:A.units+20<CJ)(h1:1<=k)(h4:k<=4)
  (hh:A.handled=none) (ho:s.heap.get? S=some o) (hT:vj w k o []) (hSl:S≠l) (hl:s.heap.IsList l (items.map λ e=>aZ e.2).toArray) (hlen:∀e∈items,e.1.length=k) (hk:∀e∈items,eM (eQ prog w) s.heap e.1 e.2) (hne:∀e∈items,e.2≠S)
  (h:∀(h' :Heap) (tk:Nat),FW w k items items.length h' S->(∀b o,b≠S->b<s.heap.objs.size->s.heap.get? b=some o->h'.get? b=some o)->R (.ok (.ret .none)) {s with heap:=h',toks:=tk}):
  br (bR prog w) A.in1 (eU.«set.__init__» ⟨[.ref S,.ref l],[]⟩)
   (λ fin s' =>match fin with | .done f=>R (.ok f) s' | .again c' =>c'.quiet=true/\iZ (bR prog w) A c' R s') (λ e s' =>R (.error e) s') s:=by
 refine wP (id hT) λ ep t UB tp tl' T r1 r2 r3=>?_;subst UB
 refine cX hl λ ol XW hcl UC=>?_;clear hl;refine aS UC λ nl Zi=>?_;clear UC
 obtain ⟨Z5,XJ,XK,W6⟩:=ol
 simp only at hcl Zi
 subst hcl;subst Zi
 have hS1:s.TypeIs (.ref S) "set":=⟨_,ho,rfl⟩
 have hl1:s.heap.IsList l (items.map λ e=>aZ e.2).toArray:=⟨_,XW,rfl,nl,rfl⟩
 have hL1:s.TypeIs (.ref l) "list":=⟨_,XW,rfl⟩
 refine ((ul hS1 (aj (aD ?_))):br _ _ (do
  zn (<-SB 200 (.ref S)) 0 1 1
  let q<-oV (.ref S)
  if<-setUsed q then IV q
  ny "set.__init__" q (.ref l)
  ret .none) _ _ s)
 unfold setUsed
 refine aj (aj (e_ ho rfl (T.fits (a0 _)) (aD ?_)))
 have hfill:(n6 t !=0)=false:=by
  unfold n6
  have:=T.sz
  simp [nG] at this
  refine ah T.dm ?_;simp [this]
 dsimp only
 refine ah hfill ?_
 simp only [aV,if_false]
 refine aj ?_
 unfold ny
 refine aj (yF hL1 ?_)
 simp only [aV,if_false]
 refine aj (F5 hL1 (ah (if_neg (by decide)) (aj (jC hl1 (aj (wpAny_runValue ?_))))))
 have hlS:l<s.heap.objs.size:=bT XW
 have hSS:S<s.heap.objs.size:=bT ho
 have hlt:∀e∈items,e.2<s.heap.objs.size:=λ e he=>let ⟨_,_,_,ho,_⟩:=hk e he;bT ho
 have u1:=qS A;have u2:=qS A.in1;have u3:=qS A.in1.in1
 have hsz:(items.map λ e=>aZ e.2).toArray.size=items.length:=by simp
 refine uk (n:=(items.map λ e=>aZ e.2).toArray.size) ((Cp (show A.in1.in1.handled=none by simp [hh]) _ l (bP hlS) (items.map λ e=>aZ e.2).toArray).toS) (by lia) h1 h4 S
  (by simp only [aM,dB,or_false,not_or];exact ⟨bP hSS,hSl⟩) items hsz.symm (λ i v hv=>?_) hlen (λ e he=>⟨hne e he,?_⟩) ((items.map λ e=>aZ e.2).toArray.size-0) 0 _ rfl (a0 _)
  ⟨⟨_,bp _ rfl,rfl,rfl⟩,(hl1.push _)⟩ ⟨_,[],bb _ ho,hT,λ b=>by simp,λ e he=>by cases he⟩ (λ e he=>ru (hk e he) λ o q=>bb _ q) ?hR
 ·have hv' :(items.map λ e=>aZ e.2)[i]? =some v:=by simpa using hv
  replace hv' :=ay▸hv'
  (try clear hv);refine aH (aX.mp hv') λ e he UF=>?_;subst UF
  exact bY e he rfl
 ·have:=hlt e he
  exact λ q=>cC _ (aq.mp q▸this)
 case hR=>
  intro s' hm hS'
  obtain ⟨h',g',d',Zl,os'⟩:=s'
  have eg:g' =s.gens:=hm.gens
  have ed:d' =s.drawn:=hm.drawn
  have eo:os' =s.os:=hm.os
  subst eg;subst ed;subst eo
  exact aD (((aD (h h' Zl (hsz▸hS') λ b o hb hl e=>(hm.heap b o (by simp only [aM,dB,or_false,not_or];exact ⟨hb,bP hl⟩) (bb _ e)))):br _ _ (ret gh) _ _ _))
theorem s_{items:TL}{Q:Value->aO->Prop}(hu:A.units+30<CJ)(h1:1<=k)(h4:k<=4)
  (hh:A.handled=none) (hl:s.heap.IsList l (items.map λ e=>aZ e.2).toArray) (hlen:∀e∈items,e.1.length=k) (hk:∀e∈items,eM (eQ prog w) s.heap e.1 e.2)
  (h:∀(h' :Heap) (tk:Nat) o es,h'.get? s.heap.objs.size=some o->vj w k o es->(∀b,b∈es.map (·.1)↔b∈items.map (·.1))->(∀e∈es,e∈items)->
   (∀b o,b<s.heap.objs.size->s.heap.get? b=some o->h'.get? b=some o)->Q (.ref s.heap.objs.size) {s with heap:=h',toks:=tk}):
  br (bR prog w) A (call (.type "set") [.ref l]) Q E s:=by
 have hlS:l<s.heap.objs.size:=let ⟨_,ho,_⟩:=hl;bT ho
 have hlt:∀e∈items,e.2<s.heap.objs.size:=λ e he=>let ⟨_,_,_,ho,_⟩:=hk e he;bT ho
 refine uW (Q1:=λ fS s₁=>fS=.ref s.heap.objs.size/\s₁={s with heap:=s.heap.push {cls:=.type "set",dict:=none,data:=.set #[] 0 (.fresh 0 0 (!w.params.followText "set-order"))}}) PySem.F.called_set (PySem.F.typeCall_set_1 _) PySem.F.entry_set_init
  (Bo _ ⟨rfl,rfl⟩) (λ M A' E' s' Q' fS hT hq=>check_set_init_1 hT hq) λ fS s₁ Ut=>(aP Ut λ UP UQ=>?_);clear Ut;subst UP;subst UQ
 have hfr:=vj.fresh w k
 generalize (CK 0 0 (!w.params.followText "set-order"))=ft at hfr⊢
 have hS:(s.heap.push {cls:=.type "set",dict:=none,data:=.set #[] 0 ft}).get? s.heap.objs.size=some {cls:=.type "set",dict:=none,data:=.set #[] 0 ft}:=bp _ rfl
 have u1:=qS A
 refine ⟨⟨_,hS,rfl⟩,sX (A:=A.in1) (items:=items) (by lia) h1 h4 (by simp [hh]) hS hfr (cj hlS) (hl.push _) hlen (λ e he=>ru (hk e he) λ o q=>bb _ q) (λ e he=>bP (hlt e he)) λ h' tk hU hkp=>(jo hU λ o es ho ZM hm hin=>?_)⟩;clear hU
 replace hm:=bn▸hm
 exact ⟨rfl,h h' tk o es ho ZM hm hin λ b o hb e=>hkp b o (bP hb) (ah (fi ..) (jg hb)) (bb _ e)⟩
end
end
section
theorem gS:Slot "set_iterator" "__next__" "set_iterator.__next__":=
 .of (owner:="set_iterator") (n:="__next__") (by refine ae (PA ..) (ah Gv ?_);kernel_rfl) (by decide+kernel) (by decide+kernel) (by decide+kernel)
  (by first | exact .inl (by decide+kernel) | exact .inr (by decide+kernel)) (by refine ae (zl ..) ?_;kernel_rfl)
theorem n':IK table "set_iterator.__next__"=some eU.«set_iterator.__next__»:=entryFor_of_tree (by kernel_rfl)
theorem wm:Uj.lookup (String.ofList ['r', 'o', 't', 'a', 'r', 'e', 't', 'i', '_', 't', 'e', 's'].reverse)=some Ui:=by kernel_rfl
theorem pP(a:Value):Gb "set_iterator.__next__" ⟨[a],[]⟩:=by
 unfold Gb;refine ah (SD (id:="set_iterator.__next__") (n:=['_', '_', 't', 'x', 'e', 'n', '_', '_']) (o:=['r', 'o', 't', 'a', 'r', 'e', 't', 'i', '_', 't', 'e', 's']) (by kernel_rfl) wm) ?_;kernel_rfl
theorem pf:Slot "set_iterator" "__iter__" "set_iterator.__iter__":=
 .of (owner:="set_iterator") (n:="__iter__") (by refine ae (PA ..) (ah Gv ?_);kernel_rfl) (by decide+kernel) (by decide+kernel) (by decide+kernel)
  (by first | exact .inl (by decide+kernel) | exact .inr (by decide+kernel)) (by refine ae (zl ..) ?_;kernel_rfl)
theorem s8:IK table "set_iterator.__iter__"=some eU.«dict_keyiterator.__iter__»:=
 RN (id' :="dict_keyiterator.__iter__") (by kernel_rfl) rfl (by decide+kernel) (by kernel_rfl)
theorem u_(a:Value):Gb "set_iterator.__iter__" ⟨[a],[]⟩:=by
 unfold Gb;refine ah (SD (id:="set_iterator.__iter__") (n:=['_', '_', 'r', 'e', 't', 'i', '_', '_']) (o:=['r', 'o', 't', 'a', 'r', 'e', 't', 'i', '_', 't', 'e', 's']) (by kernel_rfl) wm) ?_;kernel_rfl
theorem uQ:IK table "set.__iter__"=some eU.«frozenset.__iter__»:=
 RN (id' :="frozenset.__iter__") (by kernel_rfl) rfl (by decide+kernel) (by kernel_rfl)
theorem rW{α:Type}:∀{l:List α} {i:Nat} (h:i<l.length),(l[i]::l.eraseIdx i).Perm l
 | [],i,h=>absurd h (ef _)
 | a::l,0,h=>jU _
 | a::l,i+1,h=>by
  have ih:=rW (l:=l) (i:=i) (by simpa using h)
  exact ah List.eraseIdx_cons_succ (ah (List.getElem_cons_succ ..) ((jT _ _ _).trans (ih.cons a)))
theorem zO{α:Type}(next:Nat->Nat):∀(fuel k:Nat) (left:List α) (out:Array α),left.length<=fuel->(pickOrder.go next fuel k left out).toList.Perm (out.toList++left)
 | 0,k,left,out,h=>by
  have:left=[]:=dR (a_ h (a0 _))
  (try clear h);subst this
  refine (?_:out.toList.Perm (out.toList++[]))
  rw [cw]
 | fuel+1,k,left,out,h=>by
  refine (?_:(match left[next k%left.length]? with | some x=>pickOrder.go next fuel (k+1) (left.eraseIdx (next k%left.length)) (out.push x) | none=>out).toList.Perm _)
  match left with
  | []=>simp
  | a::l=>
   have hlt:next k%(a::l).length<(a::l).length:=Gg _ (by simp)
   refine ah (aB hlt) ?_
   dsimp only
   have ih:=zO next fuel (k+1) ((a::l).eraseIdx (next k%(a::l).length)) (out.push (a::l)[next k%(a::l).length]) (by refine ah List.length_eraseIdx (ah (if_pos hlt) ?_);simp at h⊢;exact h)
   exact ih.trans (ah Array.toList_push (ah (cN ..) (TS _ (rW hlt))))
theorem Bu{α:Type}(next:Nat->Nat)(xs:Array α):(CH next xs).toList.Perm xs.toList:=by
 have:=zO next xs.size 0 xs.toList #[] (by simp)
 exact this
noncomputable def nV(w:jk)(S:Addr)(ep:Nat)(es:TL):List (Int×Value):=if w.params.followText "set-order"=true then (CH (w.params.setOrder S ep) (dF es).toArray).toList else dF es
theorem nC(w:jk)(S:Addr)(ep:Nat)(es:TL):(nV w S ep es).Perm (dF es):=by
 unfold nV
 refine eC (λ V=>?_) λ V=>?_
 ·exact Bu _ _
 ·exact jU _
noncomputable def q7(w:jk)(S:Addr)(n ep:Nat)(t:jD)(i:Nat):Obj:=
 {cls:=.type "set_iterator",data:=.fields #[.int ((if w.params.followText "set-order"=true then 0 else if i=0 then 0 else t.place.getD (i-1) 0+1:Nat):Int) 0,.int i 0,.ref S,.int n 0,.int ep 0]}
section
variable{prog:Program}{w:jk}{A:eN}{E:Value->aO->Prop}{s:aO}{k:Nat}{S I:Addr}{es:TL}{ep:Nat}{t:jD}
theorem xX{Q:(Array (Int×Value)×Nat×jD)->aO->Prop}(hS:s.heap.get? S=some {cls:=.type "set",dict:=none,data:=.set (dF es).toArray ep t,slots:=#[]})(T:Tb t (nG es))(hr:es.length<=t.mask)(h:Q ((dF es).toArray,ep,t) s):br (bR prog w) A (setState S) Q E s:=
 e_ hS rfl (ah cB (dt fZ (T.fits (ah fZ hr)))) h
theorem qK{Q:Option (Value×Nat)->aO->Prop}(hS:s.heap.get? S=some {cls:=.type "set",dict:=none,data:=.set (dF es).toArray ep t,slots:=#[]})(T:Tb t (nG es))(tp:t.plain=true)(tl:t.led=!(w.params.followText "set-order"))(hr:es.length<=t.mask)
  (h1:∀h v,(nV w S ep es)[i]? =some (h,v)->Q (some (v,if w.params.followText "set-order"=true then 0 else t.place.getD i 0+1)) s) (h2:(nV w S ep es)[i]? =none->Q none s) (hi:i<=es.length):
  br (bR prog w) A (setNext S (if w.params.followText "set-order"=true then 0 else if i=0 then 0 else t.place.getD (i-1) 0+1) i ep) Q E s:=by
 unfold setNext
 refine aj (xX hS T hr ?_)
 unfold Lz
 refine aj (aj (gu (aD ?_)))
 have hsz:t.place.size=es.length:=by have:=T.sz;replace this:=fZ▸this;simpa using this
 have T' :=T
 cases hf:w.params.followText "set-order" with
 | true=>
  unfold nV at h1 h2
  rw [hf] at h1 h2
  simp only [if_true] at h1 h2⊢
  refine ah (if_pos (show ((bR prog w).w.params.followText "set-order")=true from hf)) (ah (if_neg (by simp)) (aj ?_))
  unfold setWalk
  refine aj (xX hS T hr ?_)
  unfold Lz
  refine aj (aj (gu (aD ?_)))
  dsimp only
  refine ah (if_pos (show ((bR prog w).w.params.followText "set-order")=true from hf)) (aj (gu (aD (aD (((dt c_ ?_):Q (kx _ (CH (w.params.setOrder S ep) (dF es).toArray)[i]?) s))))))
  cases hg:(CH (w.params.setOrder S ep) (dF es).toArray).toList[i]? with
  | none=>exact h2 hg
  | some q=>exact h1 q.1 q.2 hg
 | false=>
  unfold nV at h1 h2
  rw [hf] at h1 h2 tl
  simp only [aV,if_false,oB] at h1 h2 tl⊢
  refine ah (if_neg (show¬((bR prog w).w.params.followText "set-order")=true by exact ah (show ((bR prog w).w.params.followText "set-order")=false from hf) c9)) ?_
  refine kZ (λ hd=>?_) λ V=>?_
  ·exfalso
   have:(!t.plain&&decide ((dF es).toArray.size>1))=true:=hd
   replace this:=tp▸this;exact (iP this).elim
  refine aj (((ah (if_neg (by refine ah tl ?_;simp)) ?_):br _ _ (if (!t.led&& !(dF es).toArray.isEmpty)=true then _ else _) _ _ _))
  refine aD ?_
  have hb:Uh t.place (if i=0 then 0 else t.place.getD (i-1) 0+1)=i:=by
   by_cases h0:i=0
   ·exact ah (if_pos h0) (ah h0 (yX _ T.upA))
   ·exact ah (if_neg h0) (ae (yY T.upA (ai (pd h0 hi) (xb hsz (aw _)))) (ps h0))
  refine ah hb ?_
  cases hg:(dF es)[i]? with
  | none=>
   have:(dF es).toArray[i]? =none:=ae jq hg
   exact ah this (aD (h2 hg))
  | some q=>
   have:(dF es).toArray[i]? =some q:=ae jq hg
   refine ah this ?_
   have hil:i<es.length:=by
    have:=(al.mp hg).1
    unfold dF at this;rwa [ag] at this
   have hpl:t.place[i]? =some (t.place.getD i 0):=by
    refine ae (cq (yc hsz hil)) ?_
    have:i<t.place.size:=yc hsz hil
    simp only [fJ,this,dif_pos];rfl
   exact ah hpl (aD (h1 q.1 q.2 hg))
theorem yg{Q:Option Value->aO->Prop}(hI:s.heap.get? I=some (q7 w S es.length ep t i))(hS:s.heap.get? S=some {cls:=.type "set",dict:=none,data:=.set (dF es).toArray ep t,slots:=#[]})(T:Tb t (nG es))(tp:t.plain=true)(tl:t.led=!(w.params.followText "set-order"))(hr:es.length<=t.mask)(hi:i<es.length)
  (hv:(nV w S ep es)[i]? =some (h,v)) (hQ:∀h',h'.get? I=some (q7 w S es.length ep t (i+1))->ff I s.heap h' ->Q (some v) {s with heap:=h' }):br (bR prog w) A (jf (.ref I)) Q E s:=by
 have hT:s.TypeIs (.ref I) "set_iterator":=⟨_,hI,rfl⟩
 unfold jf
 refine aj (rA (gt (name:=bg "__next__") hT gS (d6 gS hT n' ?_ (pP _))))
 unfold eU.«set_iterator.__next__»
 refine ((aj (RB hI rfl ?_)):br _ _ (fieldsOf (.ref I)>>=_) _ _ s)
 dsimp only
 refine aj ?_
 unfold LA
 refine aj (xX hS T hr (aD ?_))
 dsimp only
 refine ah (if_neg (by refine ah cB ?_;simp)) ?_
 simp only [dT]
 refine aj (qK hS T tp tl hr (λ h' v' hg=>?_) (λ hg=>?_) (aG hi))
 ·replace hg:=hv▸hg
  obtain rfl:v=v' :=by have Uv:=sI hg;clear hg;cases Uv;rfl
  dsimp only
  refine aj (qw hI rfl (by simp [q7]) ?_)
  have hI1:(s.heap.update I (Obj.mapFields (·.setIfInBounds 0 (je ((if w.params.followText "set-order"=true then 0 else t.place.getD i 0+1:Nat):Int))))).get? I=some {cls:=.type "set_iterator",data:=.fields #[.int ((if w.params.followText "set-order"=true then 0 else t.place.getD i 0+1:Nat):Int) 0,.int i 0,.ref S,.int es.length 0,.int ep 0]}:=
   fu _ hI rfl
  refine aj (qw (s:={s with heap:=s.heap.update I _}) hI1 rfl (by simp) (aD ⟨v,rfl,aD (hQ _ ((fu _ hI1 rfl).trans ?_) ((dI ..).trans (dI ..)))⟩))
  unfold q7
  simp only [qE,Nat.succ_ne_zero,if_false,Nat.add_eq_zero_iff,Nat.one_ne_zero,and_false]
  rfl
 ·replace hg:=hv▸hg;exact (hV hg).elim
end
end
section
noncomputable def KP{α:Type}(n:Nat)(lt:Nat->Nat->Bool):KasT α->(α->Prop)->Prop
 | .ret a,Q=>Q a
 | .ask i j k,Q=>i<n/\j<n/\KP n lt (k (lt i j)) Q
theorem KP.mono{α:Type}{lt:Nat->Nat->Bool}{Q Q' :α->Prop}(hq:∀a,Q a->Q' a):∀(t:KasT α),KP n lt t Q->KP n lt t Q'
 | .ret a,h=>hq a h
 | .ask i j k,⟨h1,h2,h3⟩=>⟨h1,h2,KP.mono hq _ h3⟩
theorem KP.bind{α β:Type}{lt:Nat->Nat->Bool}{f:α->KasT β}{Q:β->Prop}:∀(t:KasT α),KP n lt t (λ a=>KP n lt (f a) Q)->KP n lt (t.bind f) Q
 | .ret a,h=>h
 | .ask i j k,⟨h1,h2,h3⟩=>⟨h1,h2,KP.bind _ h3⟩
theorem KP.wp{α:Type}{lt:Nat->Nat->Bool}{cmp:Nat->Nat->(Bool->aO->Prop)->aO->Prop}{Q:α->Prop}{R:α->aO->Prop}(hc:∀i j C,i<n->j<n->C (lt i j) s->cmp i j C s)(hq:∀a,Q a->R a s):
  ∀(t:KasT α),KP n lt t Q->t.kasWp cmp R s
 | .ret a,h=>hq a h
 | .ask i j k,⟨h1,h2,h3⟩=>hc i j _ h1 h2 (KP.wp hc hq _ h3)
section
variable{n:Nat}{key:Nat->Int}
noncomputable def xC(key:Nat->Int)(i j:Nat):Bool:=decide (key i<key j)
noncomputable def gK(key:Nat->Int)(p:Array Nat)(i:Nat):Int:=key (p.getD i 0)
structure PO(n:Nat)(p:Array Nat):Prop where
 perm:p.toList.Perm (bk n)
theorem PO.sz(h:PO n p):p.size=n:=by have:=h.perm.length_eq;simpa using this
theorem PO.lt(h:PO n p)(hi:i<n):p.getD i 0<n:=by
 have hi' :i<p.size:=ah h.sz hi
 have:p.getD i 0∈p.toList:=by
  simp only [fJ,hi',dif_pos]
  exact Array.getElem_mem_toList (h:=hi')
 exact bK.mp (h.perm.mem_iff.mp this)
theorem PO.apart(h:PO n p)(hk:∀i j,i<n->j<n->key i=key j->i=j)(hi:i<n)(hj:j<n)(e:gK key p i=gK key p j):i=j:=by
 have hi' :i<p.size:=ah h.sz hi
 have hj' :j<p.size:=ah h.sz hj
 have e2:=hk _ _ (h.lt hi) (h.lt hj) e
 simp only [fJ,hi',hj',dif_pos] at e2
 have hnd:p.toList.Nodup:=h.perm.nodup_iff.mpr g_
 have e3:p.toList[i]? =p.toList[j]? :=ae c_ (ah c_ (ae (cq hi') (ah (cq hj') (congrArg some e2))))
 exact (gQ (by simpa using hi') hnd).mp e3
noncomputable def Up(key:Nat->Int)(p:Array Nat)(m:Nat):Prop:=∀i j,i<j->j<m->gK key p i<gK key p j
noncomputable def Dn(key:Nat->Int)(p:Array Nat)(m:Nat):Prop:=∀i j,i<j->j<m->gK key p j<gK key p i
theorem Up.succ(h:Up key p m)(h1:1<=m)(hm:gK key p (m-1)<gK key p m):Up key p (m+1):=λ i j Vw hj=>by
 rcases bV j m with q | q
 ·exact h i j Vw q
 ·have:j=m:=a_ (aQ hj) q
  clear hj q;subst this
  rcases bV i (j-1) with q | q
  ·exact nu (h i (j-1) q (nk (ai (aK _) h1) (ai (aK _) (aw _)))) hm
  ·have:i=j-1:=a_ (jS (bB Vw)) q
   exact ah this hm
theorem Dn.succ(h:Dn key p m)(h1:1<=m)(hm:gK key p m<gK key p (m-1)):Dn key p (m+1):=λ i j Vw hj=>by
 rcases bV j m with q | q
 ·exact h i j Vw q
 ·have:j=m:=a_ (aQ hj) q
  clear hj q;subst this
  rcases bV i (j-1) with q | q
  ·exact nu hm (h i (j-1) q (nk (ai (aK _) h1) (ai (aK _) (aw _))))
  ·have:i=j-1:=a_ (jS (bB Vw)) q
   exact ah this hm
variable(hk:∀i j,i<n->j<n->key i=key j->i=j)
include hk
theorem yD(hp:PO n p):∀(f m:Nat),1<=m->m+f<=n->Up key p m->KP n (xC key) (kas_asc p f m) λ r=>m<=r/\r<=m+f/\Up key p r/\(r<m+f->gK key p r<gK key p (r-1))
 | 0,m,h1,h2,h3=>⟨aw _,aw _,h3,λ h=>absurd h (cC _)⟩
 | f+1,m,h1,h2,h3=>by
  refine dn (hp.lt (ai (bO (ax _ _)) h2)) (hp.lt (au (ac (eE _ _) (ax _ _)) (ai (aK _) h2))) ?_
  by_cases hc:xC key (p.getD m 0) (p.getD (m-1) 0)=true
  ·exact ah hc (ge (aw _) (ax _ _) h3 (λ V=>of_decide_eq_true hc))
  ·have Vp :xC key (p.getD m 0) (p.getD (m-1) 0)=false:=by simpa using hc
   refine ah Vp ?_
   have hn:¬gK key p m<gK key p (m-1):=of_decide_eq_false Vp
   have hne:gK key p m≠gK key p (m-1):=λ e=>by have:=hp.apart hk (ai (bO (ax _ _)) h2) (au (ac (eE _ _) (ax _ _)) (ai (aK _) h2)) e;exact cj (pp h1 (aw _)) this
   exact (yD hp f (m+1) (af _ _) (ac (aC (bW _ _ _)) h2) (h3.succ h1 (Ai hne hn))).mono λ r hr=>(ge (ac (ax _ _) hr.1) (ac hr.2.1 (aC (bW _ _ _))) hr.2.2.1 (λ q=>hr.2.2.2 (yc (bW _ _ _) q)))
theorem Ab(hp:PO n p):∀(f m:Nat),1<=m->m+f<=n->Dn key p m->KP n (xC key) (kas_desc f p m 0) λ r=>r.1=p/\r.2.2=0/\m<=r.2.1/\r.2.1<=m+f/\Dn key p r.2.1
 | 0,m,h1,h2,h3=>⟨rfl,rfl,aw _,aw _,h3⟩
 | f+1,m,h1,h2,h3=>by
  refine dn (hp.lt (ai (bO (ax _ _)) h2)) (hp.lt (au (ac (eE _ _) (ax _ _)) (ai (aK _) h2))) ?_
  by_cases hc:xC key (p.getD m 0) (p.getD (m-1) 0)=true
  ·refine ah hc ?_
   have hd:gK key p m<gK key p (m-1):=of_decide_eq_true hc
   exact (Ab hp f (m+1) (af _ _) (ac (aC (bW _ _ _)) h2) (h3.succ h1 hd)).mono λ r hr=>⟨hr.1,hr.2.1,ac (ax _ _) hr.2.2.1,ac hr.2.2.2.1 (aC (bW _ _ _)),hr.2.2.2.2⟩
  ·have Vp :xC key (p.getD m 0) (p.getD (m-1) 0)=false:=by simpa using hc
   refine ah Vp ?_
   have hn:¬gK key p m<gK key p (m-1):=of_decide_eq_false Vp
   have hne:gK key p m≠gK key p (m-1):=λ e=>by have:=hp.apart hk (ai (bO (ax _ _)) h2) (au (ac (eE _ _) (ax _ _)) (ai (aK _) h2)) e;exact cj (pp h1 (aw _)) this
   have ha:xC key (p.getD (m-1) 0) (p.getD m 0)=true:=decide_eq_true (by refine (?_:gK key p (m-1)<gK key p m);exact Ai hne hn)
   exact dn (hp.lt (au (ac (eE _ _) (ax _ _)) (ai (aK _) h2))) (hp.lt (ai (bO (ax _ _)) h2)) (ah ha (pF rfl rfl (aw _) (ax _ _) h3))
omit hk in
theorem pD(h:p[i]? =q[j]?):gK key p i=gK key q j:=by
 unfold gK
 exact ah sU (ah sU (ah h rfl))
omit hk in
theorem PO.rev(h:PO n p)(i j:Nat):PO n (TH p i j):=⟨(mirror_perm p i j _).toList.trans h.perm⟩
omit hk in
theorem PO.bub(h:PO n p)(i j:Nat):PO n (bubble p i j):=⟨(bubble_perm p i j).toList.trans h.perm⟩
omit hk in
theorem Dn.rev(h:Dn key p m)(hm:m<=p.size):Up key (TH p 0 m) m:=λ i j Vw hj=>by
 have e:∀k,k<m->gK key (TH p 0 m) k=gK key p (m-1-k):=λ k hkm=>pD (by
  have:=getElem?_mirror_all (xs:=p) (i:=0) (j:=m) hm k
  rewrite [if_pos ⟨a0 _,hkm⟩] at this
  replace this:=(O2 ..)▸this;exact this)
 refine ah (e i (bz Vw hj)) (ah (e j hj) ?_)
 have ZD:=jR hj
 exact h _ _ (d9 (ai Vw ZD) Vw) (au (eE ..) (nk (Nat.zero_lt_of_lt hj) Nat.one_pos))
theorem D_(hp:PO n p)(h2:2<=n):KP n (xC key) (kas_count n p) λ r=>PO n r.2/\1<=r.1/\r.1<=n/\Up key r.2 r.1:=by
 unfold kas_count
 refine KP.bind _ ((yD hk hp (n-1) 1 (aw _) (aC (dS (aG h2))) λ i j h1 h2=>Nb h2 h1).mono λ r hr=>(fE hr λ r1 r2 r3 r4=>?_));clear hr
 by_cases hrn:r=n
 ·exact ah (if_pos (by simpa using hrn)) (ge hp r1 (aC hrn) r3)
 ·refine ah (if_neg (by simpa using hrn)) ?_
  by_cases hr1:r>1
  ·refine ah (if_pos hr1) (dn (hp.lt (ai (dN _) h2)) (hp.lt (Na h2 r2)) ?_)
   have:xC key (p.getD 0 0) (p.getD (r-1) 0)=true:=decide_eq_true (r3 0 (r-1) (au (ac (a0 _) (a0 _)) (d9 hr1 hr1)) (pp r1 (aw _)))
   exact ah this (ge hp r1 (ac r2 (aC (dS (aG h2)))) r3)
  ·refine ah (if_neg hr1) ?_
   clear r2 r3;obtain rfl:r=1:=a_ (b0 hr1) r1
   have hd:=r4 (Nat.lt_add_of_pos_right (lE h2))
   unfold kas_descPart
   refine KP.bind _ ((Ab hk hp (n-(1+1)) (1+1) (af _ _) (aC (dS h2)) λ i j q1 q2=>?_).mono λ q hq=>?_)
   ·have e1:j=1:=a_ (ac (ac (aw _) (aw _)) (aQ q2)) (ac (af _ _) (bB q1))
    have e2:i=0:=a_ (aQ (yd e1 q1)) (ac (ac (aw _) (aw _)) (ac (aw _) (a0 _)))
    clear q1 q2;subst e1;(try clear q1);subst e2;exact hd
   refine t9 hq λ q1 q2 q3 q4 q5=>?_;clear hq
   refine ah q2 (ah (if_neg (by decide)) (ah q1 ?_))
   unfold kas_tail3
   have hz:=hp.sz
   exact KP.bind _ ((yD hk (hp.rev 0 q.2.1) (n-q.2.1) q.2.1 (ac (af _ _) q3) (M' h2 q4) (q5.rev (M_ h2 hz q4))).mono λ m hm=>(ge (hp.rev _ _) (ac (aG (aK _)) (ac q3 hm.1)) (M9 h2 hm q4) hm.2.2.1))
theorem rS(hp:PO n p)(hkn:k<n)(hU:Up key p k):∀(f l r:Nat),l<=r->r<=k->r-l<=f->(∀i,i<l->gK key p i<gK key p k)->(∀i,r<=i->i<k->gK key p k<gK key p i)->
  KP n (xC key) (kas_place p k f l r) λ x=>x<=k/\(∀i,i<x->gK key p i<gK key p k)/\∀i,x<=i->i<k->gK key p k<gK key p i
 | 0,l,r,h1,h2,h3,h4,h5=>⟨ac h1 h2,h4,λ i q1 q2=>h5 i (ac (gN (zt h3)) q1) q2⟩
 | f+1,l,r,h1,h2,h3,h4,h5=>by
  unfold kas_place
  by_cases hlr:l>=r
  ·exact ah (if_pos hlr) (dn (ac h1 h2) h4 (λ i q1 q2=>h5 i (ac hlr q1) q2))
  ·refine ah (if_neg hlr) (dn (hp.lt hkn) (hp.lt (Jc hkn h1 h2)) ?_)
   by_cases hc:xC key (p.getD k 0) (p.getD ((l+r)/2) 0)=true
   ·refine ah hc ?_
    have hd:gK key p k<gK key p ((l+r)/2):=of_decide_eq_true hc
    refine rS hp hkn hU f l _ (M8 h1) (M7 h1 h2) (M6 h3) h4 λ i q1 q2=>?_
    rcases qD q1 with q | q
    ·exact dt q hd
    ·exact nu hd (hU _ i q q2)
   ·have Vp :xC key (p.getD k 0) (p.getD ((l+r)/2) 0)=false:=by simpa using hc
    refine ah Vp ?_
    have hn:¬gK key p k<gK key p ((l+r)/2):=of_decide_eq_false Vp
    have hne:gK key p k≠gK key p ((l+r)/2):=λ e=>by have:=hp.apart hk hkn (Jc hkn h1 h2) e;exact M5 this h2 hlr
    refine rS hp hkn hU f _ r (M4 hlr) h2 (Si h3) (λ i q=>?_) h5
    rcases bV i ((l+r)/2) with q' | q'
    ·exact nu (hU i _ q' (Kq (ai (gc hlr) h2) h2)) (Ai hne hn)
    ·have:i=(l+r)/2:=a_ (aQ q) q'
     refine ah this ?_;exact Ai hne hn
theorem D':∀(f:Nat) (p:Array Nat) (k:Nat),PO n p->k+f=n->Up key p k->KP n (xC key) (kas_bin f p k) λ r=>PO n r/\Up key r n
 | 0,p,k,hp,hf,hU=>⟨hp,dt hf hU⟩
 | f+1,p,k,hp,hf,hU=>by
  have hkn:k<n:=ai (bO (ax _ _)) (aC hf)
  refine KP.bind _ ((rS hk hp hkn hU k 0 k (a0 _) (aw _) (eE _ _) (λ i q=>absurd q (ef _)) λ i q1 q2=>absurd q2 (eG.mpr q1)).mono λ x hx=>(ck hx λ x1 x2 x3=>?_));clear hx
  refine D' f _ (k+1) (hp.bub _ _) (a_ (ac (aC (bW _ _ _)) (aC hf)) (ac (xb hf (aw _)) (xb (bW _ _ _) (aw _)))) λ i j Vw hj=>?_
  have hks:k<p.size:=ah hp.sz hkn
  have e:∀m,gK key (bubble p k (k-x)) m=if m=x then gK key p k else if x<m/\m<=k then gK key p (m-1) else gK key p m:=λ m=>by
   have:=getElem?_bubble hks (k-x) (eE _ _) m
   replace this:=(show k-(k-x)=x by exact IM x1)▸this
   by_cases h1:m=x
   ·rw [if_pos h1] at this⊢;exact pD this
   ·rw [if_neg h1] at this⊢
    by_cases h2:x<m/\m<=k
    ·rw [if_pos h2] at this⊢;exact pD this
    ·rw [if_neg h2] at this⊢;exact pD this
  refine ah (e i) (ah (e j) ?_)
  by_cases h1:i=x
  ·exact ah (if_pos h1) (ah (if_neg (M3 Vw h1)) (ah (if_pos (bt (yb h1 Vw) (aQ hj))) (x3 _ (M2 Vw h1) (ai (sf Vw) (aQ hj)))))
  ·refine ah (if_neg h1) ?_
   by_cases h2:j=x
   ·exact ah (if_pos h2) (ah (if_neg (M1 Vw h2)) (x2 _ (yd h2 Vw)))
   ·refine ah (if_neg h2) ?_
    by_cases h3:x<i/\i<=k
    ·exact ah (if_pos h3) (ah (if_pos (bt (bz h3.1 Vw) (aQ hj))) (hU _ _ (M0 h3 Vw) (ai (sf Vw) (aQ hj))))
    ·refine ah (if_neg h3) ?_
     by_cases h4:x<j/\j<=k
     ·refine ah (if_pos h4) ?_
      rcases bV i (j-1) with q | q
      ·exact hU _ _ q (ai (sf h4.1) h4.2)
      ·exfalso;exact MZ h4 Vw q h3 h1
     ·exact ah (if_neg h4) (hU _ _ Vw (MY hj x1 h4 h2))
theorem Ha(h2:2<=n):KP n (xC key) (kas_sort n) λ r=>PO n r/\Up key r n:=by
 unfold kas_sort
 have h0:PO n (List.toArray (bk n)):=⟨by rw [o5]⟩
 refine KP.bind _ ((D_ hk h0 h2).mono λ r hr=>(fE hr λ r1 r2 r3 r4=>?_));clear hr
 have hm:max r.1 1=r.1:=Nat.max_eq_left r2
 refine ah hm ?_
 by_cases hlt:r.1<n
 ·exact ah (if_pos hlt) (D' hk _ _ _ r1 (dS r3) r4)
 ·exact ah (if_neg hlt) ⟨r1,ah (show n=r.1 by exact a_ (b0 hlt) r3) r4⟩
end
end
section
noncomputable def num:List Bool->Int
 | []=>0
 | b::r=>(if b then 2^r.length else 0)+num r
theorem rL:∀l:List Bool,0<=num l/\num l<2^l.length
 | []=>⟨Int.le_refl _,by decide⟩
 | b::r=>by
  have h:=rL r
  have h2:(2:Int)^(r.length+1)=2*2^r.length:=ae (Int.pow_succ ..) (ae (Int.mul_comm ..) rfl)
  unfold num
  refine ah bM (ah h2 ?_)
  cases b<;>simp only [if_true,aV,if_false]<;>lia
theorem ur:∀{x y:List Bool},x.length=y.length->num x=num y->x=y
 | [],[],_,_=>rfl
 | [],_::_,h,_=>by cases h
 | _::_,[],h,_=>by cases h
 | a::x,b::y,h,e=>by
  have hl:x.length=y.length:=by simpa using h
  have hx:=rL x
  have hy:=rL y
  unfold num at e
  rw [hl] at e hx
  (try clear h);cases a<;>cases b<;>simp only [if_true,aV,if_false] at e
  ·exact ah (ur hl (CT e)) rfl
  ·exact MX hx hy e
  ·exact MW hx hy e
  ·exact ah (ur hl (CT e)) rfl
noncomputable def lexLt:List Bool->List Bool->Bool
 | a::x,b::y=>if a==b then lexLt x y else !a
 | _,_=>false
theorem zZ(a b:Bool)(x y:List Bool):lexLt (a::x) (b::y)=if a==b then lexLt x y else !a:=rfl
theorem tP:∀{x y:List Bool},x.length=y.length->lexLt x y=decide (num x<num y)
 | [],[],_=>rfl
 | [],_::_,h=>by cases h
 | _::_,[],h=>by cases h
 | a::x,b::y,h=>by
  have hl:x.length=y.length:=by simpa using h
  have hx:=rL x
  have hy:=rL y
  have ih:=tP hl
  refine ae (zZ ..) ?_
  unfold num
  rw [hl] at hx⊢
  (try clear h);cases a<;>cases b
  ·simp only [beq_self_eq_true,if_true,aV,if_false]
   refine ae ih ?_;congr 1;apply propext;exact (xK 0).symm
  ·simp only [aV,if_false,if_true]
   refine (?_:true=_)
   exact (decide_eq_true (MU hx hy)).symm
  ·simp only [aV,if_false,if_true]
   refine (?_:false=_)
   exact (decide_eq_false (MT hx hy)).symm
  ·simp only [beq_self_eq_true,if_true]
   refine ae ih ?_;congr 1;apply propext;exact MR
section
variable{prog:Program}{w:jk}{A:eN}{E:Value->aO->Prop}{s:aO}{h₀:Heap}{L a:Addr}{m:Str->Option Value}{news:List (Addr×Obj)}
theorem uU{a b:Bool}{Q:Value->aO->Prop}(h:Q (.bool (decide (b2i a<b2i b))) s):br (bR prog w) A (call (.builtin "int.__lt__") [.bool a,.bool b]) Q E s:=by
 refine d6 xr (show s.TypeIs (.bool a) "bool" from rfl) entry_int_lt ?_ (args_int_lt _ _)
 obtain ⟨hp,g,d,tk,os⟩:=s
 unfold eU.«int.__lt__»
 cases a<;>cases b<;>(wp_walk;first | done | exact bY _ rfl h)
theorem yt{c a b:Bool}{Q:Bool->aO->Prop}(h:Q (decide (b2i a<b2i b)) s):br (bR prog w) A (oneLt' c (.bool a) (.bool b)) Q E s:=by
 cases c with
 | false=>exact kat_one _ _ (lt_bool h)
 | true=>
  refine ah (oneLt'_eq ..) ?_
  simp only [if_true]
  exact aj (wpAny_cRoomFor_byValue rfl (aj (wpAny_callSpecialIfBound?_slot (show s.TypeIs (.bool a) "bool" from rfl) xr (uU (jB h)))))
theorem tO{b:Bool}{Q:Bool->aO->Prop}:∀(x y:List Bool) (i:Nat),x.length=y.length->Q (lexLt x y) s->KatLex prog w A b false Q ((x.map cf).zip (y.map cf)) i s
 | [],[],i,_,h=>kat_nil h
 | [],_::_,_,h,_=>by cases h
 | _::_,[],_,h,_=>by cases h
 | p::x,q::y,i,hl,h=>by
  refine ah aU (ah aU (ah dY (kat_cons (qT ?_))))
  replace h:=(zZ ..)▸h
  by_cases e:(p==q)=true
  ·rw [e] at h⊢
   exact kat_yes (tO x y (i+1) (by simpa using hl) h)
  ·have e' :(p==q)=false:=by simpa using e
   rw [e'] at h⊢
   refine kat_no (yt ?_)
   have:decide (b2i p<b2i q)=!p:=by clear e h hl;cases p<;>cases q<;>first | rfl | exact (v8 e').elim
   exact ah this h
theorem qQ:∀{items:List (List Bool×Addr)} {k:Nat},1<=k->(∀e∈items,e.1.length=k)->(∀e∈items,∃c,(e.2,tupO (e.1.map cf).toArray c)∈news)->qC h₀ L s.heap news->
  KatTups s.heap (items.map λ e=>aZ e.2) (items.map λ e=>cf (e.1.headD false))
 | [],k,h1,hl,ht,N=>KatTups.nil
 | e::items,k,h1,hl,ht,N=>by
  refine aS (ht e (.head _)) λ c hc=>?_
  have Vh:=hl e (.head _)
  refine KatTups.cons (N _ hc).1 rfl rfl ?_ (qQ h1 (λ e he=>hl e (.tail _ he)) (λ e he=>ht e (.tail _ he)) N)
  match e,Vh with
  | (b::r,x),_=>rfl
  | ([],x),h=>exact absurd h (by refine (?_:¬0=k);exact bP h1)
theorem Bh{Q:Value->aO->Prop}(F:Fr h₀ L s.heap m)(N:qC h₀ L s.heap ((D,f' "list" (items.map λ e=>aZ e.2).toArray n)::news))(hD:∀p∈news,p.1≠D)(h1:1<=k)
  (hlen:∀e∈items,e.1.length=k) (hnd:(items.map (·.1)).Nodup) (h64:items.length<64) (ht:∀e∈items,∃c,(e.2,tupO (e.1.map cf).toArray c)∈news)
  (h:∀(es:List (List Bool×Addr)) h' c,Fr h₀ L h' m->qC h₀ L h' ((D,f' "list" (es.map λ e=>aZ e.2).toArray c)::news)->es.Perm items->es.Pairwise (λ x y=>num x.1<num y.1)->Q .none {s with heap:=h' }):
  br (bR prog w) A (call (.builtin "list.sort") [.ref D]) Q E s:=by
 have nz:=N _ (.head _)
 have N0:qC h₀ L s.heap news:=λ p hp=>N p (.tail _ hp)
 refine d6 RF ⟨_,nz.1,rfl⟩ PC ?_ (args_list_sort _)
 by_cases h2:2<=items.length
 ·let vs:=items.map λ e=>aZ e.2
  have hvl:vs.length=items.length:=ag ..
  refine kat_list_sort (vs:=vs) (news:=news) F N0 nz.1 nz.2.1 nz.2.2 hD (ah hvl h2) (ah hvl h64) λ e1 h' F' N' =>?_
  refine kat_kind (s:={s with heap:=h' }) (fs:=items.map λ e=>cf (e.1.headD false)) (T:=.type "bool") (qQ h1 hlen (λ e he=>let ⟨c,hc⟩:=ht e he;⟨c,.tail _ hc⟩) N') (ah (ag ..) (ai (dN _) h2)) (λ v hv=>?_) rfl ?_
  ·refine aH (aF.mp hv) λ e V Uv=>?_;subst Uv
   exact Looks.of_pure rfl
  refine ah hvl ?_
  let key:Nat->Int:=λ i=>num (items.getD i ([],0)).1
  have hget:∀i,i<items.length->∃e,items[i]? =some e/\items.getD i ([],0)=e/\vs.getD i gh=.ref e.2:=λ i hi=>by
   refine fV (items[i]) (aB hi) (ae bu (ah (aB hi) rfl)) ?_
   exact ((ae bu (ah ay (ah (aB hi) rfl))):(items.map λ e=>aZ e.2).getD i gh=_)
  have hk:∀i j,i<items.length->j<items.length->key i=key j->i=j:=λ i j hi hj e=>by
   refine cX (hget i hi) λ x hx ex V=>(cX (hget j hj) λ y hy ey V=>?_)
   have e' :num x.1=num y.1:=by
    have:num (items.getD i ([],0)).1=num (items.getD j ([],0)).1:=e
    rwa [ex,ey] at this
   have:=ur (ae (hlen x (am hx)) (ah (hlen y (am hy)) rfl)) e'
   refine (gQ (ah (ag ..) hi) hnd).mp ?_
   exact ae ay (ah ay (ah hx (ah hy (congrArg some this))))
  refine KP.wp (lt:=xC key) (Q:=λ p=>PO items.length p/\Up key p items.length) (λ i j C hi hj hC=>?_) (λ p hp=>?_) _ (Ha hk h2)
  ·refine cX (hget i hi) λ x hx ex vx=>(cX (hget j hj) λ y hy ey vy=>(aS (ht x (am hx)) λ cx tx=>(aS (ht y (am hy)) λ cy ty=>?_)))
   unfold kas_ask
   refine ah vx (ah vy ?_)
   have hll:x.1.length=y.1.length:=ae (hlen x (am hx)) (ah (hlen y (am hy)) rfl)
   refine kat_lt (N' _ (.tail _ tx)).1 rfl (N' _ (.tail _ ty)).1 rfl ?_
   have hf:decide ((x.1.map cf).toArray.size<(y.1.map cf).toArray.size)=false:=by
    refine ah bc (ah bc (ah (ag ..) (ah (ag ..) (ah hll ?_))));simp
   refine ah hf (tO x.1 y.1 0 hll (ah (tP hll) ?_))
   have:xC key i j=decide (num x.1<num y.1):=((ah ex (ah ey rfl)):decide (num (items.getD i ([],0)).1<num (items.getD j ([],0)).1)=_)
   exact dt this hC
  ·refine aP hp λ UO hp2=>?_;clear hp
   let es:=p.toList.map λ i=>items.getD i ([],0)
   have hes:(p.toList.map λ i=>vs.getD i gh)=es.map λ e=>aZ e.2:=by
    refine ((ah bI (dq λ i hi=>(cX (hget i (bK.mp (UO.perm.mem_iff.mp hi))) λ x V ex vx=>?_))):_=(p.toList.map λ i=>items.getD i ([],0)).map _)
    refine (?_:vs.getD i gh=aZ (items.getD i ([],0)).2)
    exact ae vx (ah ex rfl)
   refine ah hes ?_
   have hperm:es.Perm items:=by
    refine (UO.perm.map _).trans ?_
    have:(bk items.length).map (λ i=>items.getD i ([],0))=items:=by
     refine jv (by simp) λ i h1 h2=>?_
     refine ae (GI ..) (ah (CQ ..) (ae bu (ah (aB h2) ?_)));rfl
    rw [this]
   have hsort:es.Pairwise (λ x y=>num x.1<num y.1):=by
    refine (?_:(p.toList.map _).Pairwise _)
    refine gk cE ?_
    refine cW.mpr λ i j hi hj Vw=>?_
    have hz:=UO.sz
    have hi' :i<p.size:=by simpa using hi
    have hj' :j<p.size:=by simpa using hj
    have:=hp2 i j Vw (ai hj' (aC hz))
    unfold gK at this
    simp only [fJ,hi',hj',dif_pos] at this
    refine (?_:num (items.getD (p.toList[i]) ([],0)).1<num (items.getD (p.toList[j]) ([],0)).1)
    refine ah (zy ..) (ah (zy ..) ?_)
    exact this
   exact pE _ _ F' N' (UpdF.head hD) (λ ZS c F'' N'' =>⟨_,rfl,h es ZS c F'' N'' hperm hsort⟩)
 ·have hes:items.Pairwise (λ x y=>num x.1<num y.1):=by
   match items,h2 with
   | [],_=>exact .nil
   | [e],_=>exact iS _ _
   | _::_::_,h2=>exact absurd (by simp) h2
  let vs:=items.map λ e=>aZ e.2
  have hvl:vs.length=items.length:=ag ..
  have ZK:=nz.2.1
  have ha0:=nz.2.2
  have ho:=nz.1
  have s1:=dI s.heap D (fO λ V=>(#[]:Array Value))
  obtain ⟨e1,Xm⟩:∃e1,(s.heap.update D (fO λ V=>(#[]:Array Value))).get? D=some (f' "list" #[] e1):=⟨_,PB ho λ V=> #[]⟩
  have F3:Fr h₀ L (((s.heap.update D (fO λ V=>(#[]:Array Value))).push (f' "tuple" vs.toArray 0)).push (f' "list" #[] 0)) m:=((kas_fr F s1 ZK ha0).push _).push _
  have N2:qC h₀ L (((s.heap.update D (fO λ V=>(#[]:Array Value))).push (f' "tuple" vs.toArray 0)).push (f' "list" #[] 0)) news:=
   (kas_news N0 s1 hD).grown λ b x e=>bb _ (bb _ e)
  have ho3:(((s.heap.update D (fO λ V=>(#[]:Array Value))).push (f' "tuple" vs.toArray 0)).push (f' "list" #[] 0)).get? D=some (f' "list" #[] e1):=bb _ (bb _ Xm)
  refine (?_:br _ _ (eU.«list.sort» ⟨[.ref D],[]⟩) _ _ _)
  refine ah (list_sort_plain ..) ?_
  refine aj (listItems_at ho rfl ?_)
  refine aj (SG ho rfl ?_ (by refine ah bc (ah (ag ..) (ah b_ ?_));exact aG (ai h64 (af _ _))) (a0 _))
  refine aj (T9 Xm rfl ?_)
  refine aj (zi ?_ (by refine (?_:vs.length<=_);refine ah hvl (ah b_ ?_);exact aG (ai h64 (af _ _))))
  refine aj (na ?_ (a0 _))
  refine cR ?_
  refine (?_:br (bR prog w) A.in1 _ _ E {s with heap:=((s.heap.update D (fO λ V=>(#[]:Array Value))).push (f' "tuple" vs.toArray 0)).push (f' "list" #[] 0)})
  dsimp only
  have hn2:vs.toArray.size<2:=by refine ah bc (ah hvl ?_);exact gc h2
  refine ah (if_pos hn2) (ah (if_pos hn2) ?_)
  refine aj (aD ?_)
  refine aj (aD ?_)
  dsimp only
  have hout:(arrOf (SortSt.mk' general' (vs.toArray.zip vs.toArray) #[] 7 none)).map (·.2)=vs.toArray:=by
   refine (?_:(vs.toArray.zip vs.toArray).map (·.2)=vs.toArray)
   apply rj.mp
   refine ae Array.toList_map (ah Array.toList_zip (ae o5 ?_))
   exact List.map_snd_zip (aw _)
  refine ah hout ?_
  obtain ⟨c2,hc2⟩:∃c2,((((s.heap.update D (fO λ V=>(#[]:Array Value))).push (f' "tuple" vs.toArray 0)).push (f' "list" #[] 0)).update D (fO λ V=>vs.toArray)).get? D=some (f' "list" vs.toArray c2):=⟨_,PB ho3 λ V=>vs.toArray⟩
  have s2:=dI (((s.heap.update D (fO λ V=>(#[]:Array Value))).push (f' "tuple" vs.toArray 0)).push (f' "list" #[] 0)) D (fO λ V=>vs.toArray)
  refine aj (T9 ho3 rfl ?_)
  refine aj (SG ho3 rfl ?_ (a0 _) (by refine ah bc (ah hvl (ah b_ ?_));exact aG (ai h64 (af _ _))))
  simp only [bne_self_eq_false,aV,if_false]
  refine aD ⟨_,rfl,h items _ c2 (kas_fr F3 s2 ZK ha0) (λ p hp=>?_) (jU _) hes⟩
  rcases aM.mp hp with rfl | hp
  ·exact dn hc2 ZK ha0
  ·exact kas_news N2 s2 hD p hp
end
end
section
section
variable{prog:Program}{w:jk}{A:eN}{E:Value->aO->Prop}{s:aO}{k:Nat}{S I:Addr}{es:TL}{ep:Nat}{t:jD}
theorem Bm{Q:Option Value->aO->Prop}(hh:A.handled=none)(hI:s.heap.get? I=some (q7 w S es.length ep t es.length))(hS:s.heap.get? S=some {cls:=.type "set",dict:=none,data:=.set (dF es).toArray ep t,slots:=#[]})(T:Tb t (nG es))(tp:t.plain=true)(tl:t.led=!(w.params.followText "set-order"))(hr:es.length<=t.mask)
  (hQ:∀h',Heap.ExtBut I s.heap h' ->Q none {s with heap:=h' }):br (bR prog w) A (jf (.ref I)) Q E s:=by
 have hT:s.TypeIs (.ref I) "set_iterator":=⟨_,hI,rfl⟩
 have hlen:(nV w S ep es).length=es.length:=by
  have:=(nC w S ep es).length_eq
  unfold dF at this;rwa [ag] at this
 unfold jf
 refine aj (rA (gt (name:=bg "__next__") hT gS (d6 gS hT n' ?_ (pP _))))
 unfold eU.«set_iterator.__next__»
 refine ((aj (RB hI rfl ?_)):br _ _ (fieldsOf (.ref I)>>=_) _ _ s)
 dsimp only
 refine aj ?_
 unfold LA
 refine aj (xX hS T hr (aD ?_))
 dsimp only
 refine ah (if_neg (by refine ah cB ?_;simp)) ?_
 simp only [dT]
 refine aj (qK hS T tp tl hr (λ h' v' hg=>?_) (λ hg=>?_) (aw _))
 ·replace hg:=(bD (ah hlen (aw _)))▸hg;exact (bH hg).elim
 ·dsimp only
  refine aj (qw hI rfl (by simp [q7]) (((aj ?_):br _ _ (newExc (.type "StopIteration") []>>=_) _ _ _)))
  simp only [newExc,newTuple]
  refine aj (mv (aj (m:=RM _ _) (T4 (a:=gh) (by first | rfl | (simp only [RM];rfl)) (mv (aj (wpAny_handled (ah (show A.in1.handled=none from hh) (aj (aD (wpAny_throw ?_)))))) (by size_fits)))) (by size_fits))
  exact aj (kj (T:="StopIteration") (b:=true) ⟨_,bp _ rfl,rfl⟩ RJ (aD (hQ _ (((dI ..).extBut.push _).push _))))
theorem yf{Q:Value->aO->Prop}(hI:s.heap.get? I=some (q7 w S n ep t i))(h:Q (.ref I) s):br (bR prog w) A (qx (.ref I)) Q E s:=by
 have hT:s.TypeIs (.ref I) "set_iterator":=⟨_,hI,rfl⟩
 exact LW hT pf (d6 pf hT s8 (((aD ⟨_,rfl,"set_iterator",_,hT,gS.lookup,h⟩):br _ _ (ret (.ref I)) _ _ s)) (u_ _))
theorem Bj{Q:Value->aO->Prop}(hS:s.heap.get? S=some {cls:=.type "set",dict:=none,data:=.set (dF es).toArray ep t,slots:=#[]})(T:Tb t (nG es))(tp:t.plain=true)(hr:es.length<=t.mask)
  (hQ:Q (.ref s.heap.objs.size) {s with heap:=s.heap.push (q7 w S es.length ep t 0)}):br (bR prog w) A (qx (.ref S)) Q E s:=by
 have hT:s.TypeIs (.ref S) "set":=⟨_,hS,rfl⟩
 refine LW hT vL (d6 vL hT uQ ?_ (PySem.F.args_set_iter_1 _))
 unfold eU.«frozenset.__iter__» IS
 refine aj (m:=(do oV (<-slotArgs "__iter__" 0 ⟨[.ref S],[]⟩).1)) (aD (aj ?_))
 unfold IT LA
 refine aj (aj (xX hS T hr (aD (aD (aj (m:=setDrawn S) ?_)))))
 unfold setDrawn
 refine aj (xX hS T hr ?_)
 unfold Lz
 refine aj (aj (gu (aD (aD (kZ (λ hd=>?_) λ V=>aj (aD ?_))))))
 ·exfalso
  have hd' :(!((bR prog w).w.params.followText "set-order")&&(!t.plain&&decide ((dF es).toArray.size>1)))=true:=hd
  replace hd' :=tp▸hd';simp at hd'
 refine aj (m:=setEpoch S) ?_
 unfold setEpoch
 refine aj (xX hS T hr (aD (aj ?_)))
 unfold newFields
 refine mv (aD ⟨_,rfl,"set_iterator",_,⟨_,bp _ rfl,rfl⟩,gS.lookup,?_⟩)
 have e:({cls:=Value.type "set_iterator",data:=.fields [je ↑0,je 0,.ref S,je ↑((dF es).toArray.size),je ↑ep].toArray}:Obj)=q7 w S es.length ep t 0:=by
  unfold q7
  refine ah cB ?_
  simp only [if_true,ite_self]
  rfl
 exact e▸hQ
theorem Walks.tset(hh:A.handled=none)(hne:S≠I)(T:Tb t (nG es))(tp:t.plain=true)(tl:t.led=!(w.params.followText "set-order"))(hr:es.length<=t.mask):
  Walks prog w A I [I,S] [I] es.length (λ i v=>∃h,(nV w S ep es)[i]? =some (h,v)) (λ i h=>h.get? I=some (q7 w S es.length ep t i)/\h.get? S=some {cls:=.type "set",dict:=none,data:=.set (dF es).toArray ep t,slots:=#[]}) where
 sub:=λ b hb=>by simp at hb;simp [hb]
 frame:=λ V V V st hk=>⟨hk I (by simp) _ st.1,hk S (by simp) _ st.2⟩
 item:=λ i s Q E hi st hQ=>by
  have hlen:(nV w S ep es).length=es.length:=by
   have:=(nC w S ep es).length_eq
   unfold dF at this;rwa [ag] at this
  have hg:(nV w S ep es)[i]? =some (nV w S ep es)[i]:=aB _
  generalize (nV w S ep es)[i]=q at hg
  exact yg (h:=q.1) (v:=q.2) st.1 st.2 T tp tl hr hi hg λ h' Wu hs' =>(hQ q.2 h' s.toks ⟨q.1,hg⟩ ⟨Wu,(hs'.2 S hne).trans st.2⟩ λ b o hb e=>hs'.extBut b o (λ h=>hb (by simp [h])) e)
 done:=λ s Q E st hQ=>Bm hh st.1 st.2 T tp tl hr λ h' he' =>hQ h' s.toks λ b o hb e=>he' b o (λ h=>hb (by simp [h])) e
 self:=λ V V V V st hQ=>yf st.1 hQ
theorem Ej{Q:Bool->aO->Prop}(hT:s.TypeIs (.ref r) "set")(h:Q false s):br (bR prog w) A (pZ (.ref r)) Q E s:=by
 unfold pZ
 refine aj (oX hT PySem.F.slot_set_len.lookup ?_)
 generalize hid:("set.__len__":String)=id0
 wp_delta
 refine ah (show splitId id0=some ("set","__len__") from by subst hid;decide+kernel) ?_
 subst hid
 refine aj (kj (T:="set") (b:=true) hT (by refine ae (zl ..) ?_;kernel_rfl) ?_)
 exact kZ (λ hab=>absurd hab (by decide)) (λ V=>(kZ (λ V=>(aj (F5 hT (aD h)))) (λ hab=>absurd (by decide+kernel) hab)))
theorem Hc(T:Tb t (nG es))(tp:t.plain=true)(tl:t.led=!(w.params.followText "set-order"))(hr:es.length<=t.mask):
  KdlSrc prog w "set" S S es.length (λ i v=>∃h,(nV w S ep es)[i]? =some (h,v)) (λ h=>h.get? S=some {cls:=.type "set",dict:=none,data:=.set (dF es).toArray ep t,slots:=#[]}) where
 type:=λ s h=>⟨_,h,rfl⟩
 there:=λ h ho=>⟨bT ho,bT ho⟩
 keep:=λ h h' ho hk=>hk S (.inl rfl) _ ho
 notList:=by decide
 notTuple:=by decide
 hint:=λ A E s Q ho hq=>Ej ⟨_,ho,rfl⟩ hq
 iter:=λ A s hh ho=>⟨q7 w S es.length ep t 0,_,λ E Q hq=>Bj ho T tp hr hq,Walks.tset hh (bP (bT ho)) T tp tl hr,bp _ rfl,bb _ ho⟩
theorem DI{α β:Type}{f:α->β}{l:List β}{xs:List α}(h:l.Perm (xs.map f)):∃ys:List α,ys.Perm xs/\l=ys.map f:=by
 generalize hm:xs.map f=m at h
 induction h generalizing xs with
 | nil=>
  exact bY [] (by rw [il.mp hm]) rfl
 | @cons x l₁ l₂ _ ih=>
  refine gJ (ou.mp hm) λ a r Uv Uy hr=>?_;subst Uv;subst Uy
  exact aH (ih hr) λ ys h1 h2=>(bY (a::ys) (h1.cons a) (ah h2 rfl))
 | swap x y l=>
  refine gJ (ou.mp hm) λ a r UB UC hr=>?_;subst UB;subst UC
  (try clear hm);refine gJ (ou.mp hr) λ b q UF UP hq=>?_;subst UF;subst UP
  exact bY (b::a::q) (jT _ _ _) (dt hq rfl)
 | trans _ _ ih1 ih2=>
  exact aH (ih2 hm) λ ys h1 h2=>(aH (ih1 h2.symm) λ zs h3 h4=>(bY zs (h3.trans h1) h4))
end
end
section
section
variable{prog:Program}{w:jk}{A:eN}{E:Value->aO->Prop}{s:aO}{h₀:Heap}{L:Addr}{mL:Str->Option Value}{news:List (Addr×Obj)}{Q:Value->aO->Prop}{X9:Value}{items:TL}{k:Nat}
theorem zD(F:Fr h₀ L s.heap mL)(N:qC h₀ L s.heap news)(h1:1<=k)(hlen:∀e∈items,e.1.length=k)(hnd:(items.map (·.1)).Nodup)(h64:items.length<64)(ht:∀e∈items,∃c,(e.2,tupO (e.1.map cf).toArray c)∈news)
  (X3:∀(R:List Value->aO->Prop),(∀h' tk (it:TL),(∀b o,s.heap.get? b=some o->h'.get? b=some o)->it.Perm items->R (it.map λ e=>aZ e.2) {s with heap:=h',toks:=tk})->br (bR prog w) A.in1 (collect X9) R E s)
  (h:∀D (es:TL) h' tk c,Fr h₀ L h' mL->qC h₀ L h' ((D,f' "list" (es.map λ e=>aZ e.2).toArray c)::news)->(∀q∈news,q.1<D)->es.Perm items->es.Pairwise (λ x y=>num x.1<num y.1)->Q (.ref D) {s with heap:=h',toks:=tk}):
  br (bR prog w) A (call (.builtin "sorted") [X9]) Q E s:=by
 refine call_function_entry Ua TF TK (args_sorted1 _) ?_
 unfold eU.«sorted»
 refine aj (m:=zn "sorted" 1 1 _) (aD (aj (X3 _ λ h' tk it hk hp=>?_)))
 have hl:(it.map λ e=>aZ e.2).length=items.length:=ae (ag ..) (ae hp.length_eq rfl)
 refine aj (na ?_ (ah hl (ah b_ (aG (ai h64 (af _ _))))))
 have hlt:∀q∈news,q.1<h'.objs.size:=λ q hq=>bT (hk _ _ (N q hq).1)
 refine aj (cR (Bh (s:={s with heap:=h'.push {cls:=.type "list",data:=.seq (it.map λ e=>aZ e.2).toArray},toks:=tk}) (n:=0) (items:=it) ((F.keeps hk).push _) (News.push (F.keeps hk) (λ p hp=>⟨hk _ _ (N p hp).1,(N p hp).2⟩) _ rfl) (λ p hp=>bP (hlt p hp)) h1
  (λ e he=>hlen e (hp.mem_iff.mp he)) ((hp.map _).nodup_iff.mpr hnd) (ah hp.length_eq h64) (λ e he=>ht e (hp.mem_iff.mp he)) λ es ZS c F' N' Ye Xk=>?_))
 exact aD ⟨_,rfl,h h'.objs.size es ZS tk c F' N' hlt (Ye.trans hp) Xk⟩
end
section
variable{C:Cx}{F:dD}{n:Nat}{m:Str->Option Value}{U U' :AH}{Z Y Y' :List (Addr×Obj)}{s s' :aO}{items:TL}{k:Nat}
theorem An:∀{vs:List Value} {as:List Addr},vs.map er=as.map .ref->vs=as.map .ref
 | [],[],_=>rfl
 | [],_::_,h=>by cases h
 | _::_,[],h=>by cases h
 | v::vs,a::as,h=>by
  replace h:=(jr ..)▸aU▸aU▸h
  exact ah aU (ah (eI h.1) (ah (An h.2) rfl))
theorem wM:∀{vs:List Value} {bs:List Bool},vs.map er=bs.map .bool->vs=bs.map .bool
 | [],[],_=>rfl
 | [],_::_,h=>by cases h
 | _::_,[],h=>by cases h
 | v::vs,a::as,h=>by
  replace h:=(jr ..)▸aU▸aU▸h
  exact ah aU (ah (ir h.1) (ah (wM h.2) rfl))
theorem qR:∀bs:List Bool,ItemsAre (eQ prog w) bs (bs.map cf)
 | []=> .nil
 | b::bs=> .cons (by refine (?_:Pd b (.bool b)=true);unfold Pd;simp) (qR bs)
theorem cQ.tupO(R:cQ C F Z s m U){bs:List Bool}(h:U.rd a=some (.tup (bs.map .bool))):∃c,s.heap.get? a=some (tupO (bs.map cf).toArray c):=by
 refine cu (R.at h) λ vs c hv hx=>?_
 replace hv:=wM hx▸hv
 exact ⟨c,hv⟩
theorem cQ.key(R:cQ C F Z s m U)(h:U.rd a=some (.tup (bs.map .bool))):eM (eQ C.prog C.w) s.heap bs a:=aS (R.tupO h) λ c hv=>(t6 _ _ _ hv rfl rfl (ah o5 (qR bs)))
theorem cQ.lst(R:cQ C F Z s m U)(h:U.rd l=some (.list (items.map λ e=>aZ e.2))):s.heap.IsList l (items.map λ e=>aZ e.2).toArray:=by
 refine cu (R.at h) λ vs c hv hx=>?_
 have:vs=items.map λ e=>aZ e.2:=by
  have:=An (vs:=vs) (as:=items.map (·.2)) (ae hx (ah bI rfl))
  exact ae this (ae bI rfl)
 (try clear hx);subst this
 exact ⟨_,hv,rfl,c,rfl⟩
theorem JP{Q:Value->AH->Prop}(hl:U.rd l=some (.list (items.map λ e=>aZ e.2)))(h1:1<=k)(h4:k<=4)(hlen:∀e∈items,e.1.length=k)(ht:∀e∈items,U.rd e.2=some (.tup (e.1.map .bool)))
  (h:∀S o es,U.get S=none->vj C.w k o es->(∀b,b∈es.map (·.1)↔b∈items.map (·.1))->(∀e∈es,e∈items)->Q (.ref S) (U.put S (.raw o))):WB C F (n+4) (.type "set") [.ref l] m U (qe Q):=λ Us e O Z s W R K=>by
 refine aR e ?_
 have hu:=O.units
 refine s_ (items:=items) (au (aJ (af _ _) _) hu) h1 h4 O.handled (R.lst hl) hlen (λ e he=>R.key (ht e he)) λ h' tk o es ho hT hm hin hk=>?_
 have hn:s.heap.get? s.heap.objs.size=none:=R.size_none
 exact (K _ _ _ (R.new (s' :={s with heap:=h',toks:=tk}) O R.core.upd (λ b o e=>hk b o (bT e) e) hn (R.top O) (o:=.raw o) ho) (h _ o es (R.fresh hn) hT hm hin))
theorem G_{Q:Value->AH->Prop}(hS:U.rd S=some (.raw o))(hT:vj C.w k o es)(h4:k<=4)(h:Q (vi (es.length:Int)) U):WB C F n (.builtin "len") [.ref S] m U (qe Q):=λ Us e O Z s W R K=>by
 refine aR e (wP hT λ ep t Uv tp tl T hl hn hr=>?_);clear hT;subst Uv
 have ho:=R.at hS
 have Yj:=qk h4 hl hn
 refine call_len_set ho ⟨rfl,rfl,rfl⟩ rfl (ah cB (dt fZ (T.fits (ah fZ (vj.room h4 T hl hn hr))))) (ah cB (dy (bU.mpr Yj) (by decide))) ?_
 exact (K _ _ _ (R.toks O) (ah cB h))
theorem ye{Q:Value->AH->Prop}(hS:U.get S=some (.raw o))(hT:vj C.w k o es)(h1:1<=k)(h4:k<=4)(ht:∀e∈es,U.get e.2=some (.tup (e.1.map .bool)))
  (h:∀D (ys:TL),U.get D=none->ys.Perm es->ys.Pairwise (λ x y=>num x.1<num y.1)->Q (.ref D) (U.put D (.list (ys.map λ e=>aZ e.2)))):WB C F n (.builtin "sorted") [.ref S] m U (qe Q):=λ Us e O Z s W R K=>by
 refine aR e (wP (id hT) λ ep t Uy tp tl T hl hn hr=>?_);subst Uy
 have ho:s.heap.get? S=some _:=(R.sg _ _ hS).2
 have Yj:=qk h4 hl hn
 have Vf:=vj.room h4 T hl hn hr
 refine cX (R.viaNews O) λ mL FR N back=>?_
 have hrd:∀e∈es,U.rd e.2=some (.tup (e.1.map .bool)):=λ e he=>by unfold AH.rd;exact ah (ht e he) rfl
 refine zD FR N h1 hl hn (au Yj (by decide)) (λ e he=>?_) (λ Rr ZN=>?_) λ D ys h' tk c F' N' hlt hp hs=>?_
 ·exact aS (R.tupO (hrd e he)) λ c hc=>⟨c,ak _ (bX.mpr ⟨AH.dom' (ht e he),hc⟩)⟩
 ·refine Ub (Hc (S:=S) (ep:=ep) T tp tl Vf) (by simp [O.handled]) ho (ah b_ (ac Yj (af _ _))) λ h' tk Ur hk hacc=>?_
  have hz:Ur.toList=(nV C.w S ep es).map (·.2):=by
   have hlo:(nV C.w S ep es).length=es.length:=by
    have:=(nC C.w S ep es).length_eq
    unfold dF at this;rwa [ag] at this
   refine Gj λ i=>(ah ay ?_)
   by_cases hi:i<es.length
   ·obtain ⟨v,hg⟩:∃v,Ur[i]? =some v:=⟨_,cq (ah hacc.1 hi)⟩
    exact aS (hacc.2 i v hg) λ q hq=>(ae c_ (ae hg (ah hq rfl)))
   ·refine ah (bD (ah Array.length_toList (ah hacc.1 (b0 hi)))) (ah (bD (ah hlo (b0 hi))) ?_);rfl
  have Ye:=((nC C.w S ep es).map (·.2))
  replace Ye:=dc hz▸Ye;rewrite [show (dF es).map (·.2)=es.map λ e=>aZ e.2 by unfold dF;exact ae bI rfl] at Ye
  exact aH (DI Ye) λ it hp hit=>(ah hit (ZN h' tk it hk hp))
 ·refine aP (back {s with heap:=h',toks:=tk} D _ (.list (ys.map λ e=>aZ e.2)) ⟨R.core.gens,R.core.os,R.core.dr⟩ F' N' hlt (by
   have hSl:(S,_)∈led F Z U s.heap:=ak _ (bX.mpr ⟨AH.dom' hS,ho⟩)
   exact bz (R.sm _ _ hS) (hlt _ hSl)) ⟨ys.map λ e=>aZ e.2,c,(N' _ (.head _)).1,ae bI rfl⟩) λ R' hn' =>?_
  exact (K _ _ _ R' (h D ys hn' hp hs))
theorem wd{Q:Value->AH->Prop}(hS:U.get l=some (.list (items.map λ e=>aZ e.2)))(h1:1<=k)(hlen:∀e∈items,e.1.length=k)(hnd:(items.map (·.1)).Nodup)(h64:items.length<64)(ht:∀e∈items,U.get e.2=some (.tup (e.1.map .bool)))
  (h:∀D (ys:TL),U.get D=none->ys.Perm items->ys.Pairwise (λ x y=>num x.1<num y.1)->Q (.ref D) (U.put D (.list (ys.map λ e=>aZ e.2)))):WB C F n (.builtin "sorted") [.ref l] m U (qe Q):=λ Us e O Z s W R K=>by
 refine aR e ?_
 have hrd:U.rd l=some (.list (items.map λ e=>aZ e.2)):=by unfold AH.rd;exact ah hS rfl
 have hL:=R.lst hrd
 refine cX (R.viaNews O) λ mL FR N back=>(zD FR N h1 hlen hnd h64 (λ e he=>?_) (λ Rr ZN=>?_) λ D ys h' tk c F' N' hlt hp hs=>?_)
 ·exact aS (R.tupO (show U.rd e.2=some (.tup (e.1.map .bool)) by unfold AH.rd;exact ah (ht e he) rfl)) λ c hc=>⟨c,ak _ (bX.mpr ⟨AH.dom' (ht e he),hc⟩)⟩
 ·refine collect_list hL ?_ (ah (ag ..) (ah b_ (aG (ai h64 (af _ _)))))
  refine ZN _ _ items (λ b o q=>?_) (jU _)
  have hlt:b<s.heap.objs.size:=bT q
  exact ae (kr _ _ _ _ (bP hlt)) (ae (Heap.get?_push_ne _ _ _ (bP hlt)) q)
 ·refine aH hL λ ol XW V=>?_;clear hL
  refine aP (back {s with heap:=h',toks:=tk} D _ (.list (ys.map λ e=>aZ e.2)) ⟨R.core.gens,R.core.os,R.core.dr⟩ F' N' hlt (by
   have hSl:(l,ol)∈led F Z U s.heap:=ak _ (bX.mpr ⟨AH.dom' hS,XW⟩)
   exact bz (R.sm _ _ hS) (hlt _ hSl)) ⟨ys.map λ e=>aZ e.2,c,(N' _ (.head _)).1,ae bI rfl⟩) λ R' hn' =>?_
  exact (K _ _ _ R' (h D ys hn' hp hs))
end
end
section
section
variable{C:Cx}{F:dD}{n:Nat}{m:Str->Option Value}{U U' :AH}{Z Y Y' :List (Addr×Obj)}{s s' :aO}
theorem G3{Q:Value->AH->Prop}(ha:U.rd a=some (.tup xs))(hb:U.rd b=some (.tup ys))(hy:ys≠[])(hz:xs.length+ys.length<=10000000)
  (h0:xs=[]->Q (.ref b) U) (h:∀D,U.get D=none->Q (.ref D) (U.put D (.tup (xs++ys)))):
  ji C F n (fB .Add) (.ref a) (.ref b) m U (qe Q):=λ a' b' e1 e2 O Z s W R K=>by
 refine lA e1 (lA e2 (cu (R.at ha) λ vs k hv hx=>(cu (R.at hb) λ ws k' hw Xh =>?_)))
 have hlen:=eK hx
 have hlen' :=eK Xh
 refine cX (R.viaNews O) λ mL FR N back=>(add_tuples (vs:=vs) (ws:=ws) FR N ⟨_,hv,rfl,_,rfl⟩ ⟨_,hw,rfl,_,rfl⟩ (λ e=>?_) (λ V e=>?_) (λ V V h' F' N' =>?_) (by refine ah b_ ?_;exact Sm hz hlen hlen'))
 ·exact (K _ _ _ R (h0 (sV hx (ah e rfl))))
 ·exact absurd (sV Xh (ah e rfl)) hy
 ·exact aP (back {s with heap:=h' } _ _ (.tup (xs++ys)) ⟨R.core.gens,R.core.os,R.core.dr⟩ F' N' R.ledLt (R.top O) ⟨vs++ws,0,(N' _ (.head _)).1,ae aE (ah hx (ah Xh rfl))⟩) λ R' hn=>(K _ _ _ R' (h _ hn))
theorem tF{vs:List Value}{bs:List Bool}(e:vs.map er=bs.map .bool):TruthOf prog w A (λ i v=>vs.toArray[i]? =some v) (λ i=>bs.getD i false):=by
 intro i v s Q E hv h
 have hv' :vs[i]? =some v:=by simpa using hv
 have h1:(vs.map er)[i]? =some (er v):=ae ay (ah hv' rfl)
 replace h1:=ay▸e▸h1
 cases hb:bs[i]? with
 | none=>replace h1:=hb▸h1;exact (bH h1).elim
 | some b=>
  replace h1:=hb▸h1
  have h2:er v=.bool b:=(bq h1).symm
  refine Gp h2 ?_
  have h3:bs.getD i false=b:=ae bu (ah hb rfl)
  dsimp only at h
  replace h:=h3▸h
  exact jB h
theorem Bs(bs:List Bool):(bk bs.length).all (λ i=>bs.getD i false)=bs.all id:=by
 have:(bk bs.length).map (λ i=>bs.getD i false)=bs:=by
  refine jv (by simp) λ i h1 h2=>?_
  simp [bu,aB h2]
 conv=>rhs;rw [<-this]
 exact ah mE rfl
theorem Br(bs:List Bool):(bk bs.length).any (λ i=>bs.getD i false)=bs.any id:=by
 have:(bk bs.length).map (λ i=>bs.getD i false)=bs:=by
  refine jv (by simp) λ i h1 h2=>?_
  simp [bu,aB h2]
 conv=>rhs;rw [<-this]
 exact ah ky rfl
theorem KR{bs:List Bool}{Q:Value->AH->Prop}(ha:U.rd a=some (.list (bs.map .bool)))(h:Q (.bool (bs.all id)) U):WB C F n (.builtin "all") [.ref a] m U (qe Q):=λ Us e O Z s W R K=>by
 refine aR e (cu (R.at ha) λ vs k hv hx=>?_)
 have hl:vs.length=bs.length:=sV (ag (f:=er) (as:=vs)) (ah hx (ae (ag ..) rfl))
 refine call_all_walk (jC (items:=vs.toArray) ⟨_,hv,rfl,_,rfl⟩ ⟨s.heap.objs.size,_,_,_,_,_,_,rfl,Cp (A:=F.A.in1) O.handled s.heap.objs.size a (λ e=>?_) vs.toArray,⟨⟨_,bp _ rfl,rfl,rfl⟩,xz ⟨_,hv,rfl,_,rfl⟩ _⟩,tF hx,λ h' tk hk=>?_⟩)
 ·replace hv:=R.size_none▸e▸hv;exact (bH hv).elim
 ·have R' :cQ C F Z {s with heap:=h',toks:=tk} m U:=R.grow O R.core.upd λ b o e=>hk b o (λ q=>by replace e:=R.size_none▸aq.mp q▸e;exact (bH e).elim) (bb _ e)
  refine ah (show vs.toArray.size=bs.length by exact ae bc hl) (ah (Bs ..) ?_)
  exact (K _ _ _ R' h)
theorem KQ{bs:List Bool}{Q:Value->AH->Prop}(ha:U.rd a=some (.list (bs.map .bool)))(h:Q (.bool (bs.any id)) U):WB C F n (.builtin "any") [.ref a] m U (qe Q):=λ Us e O Z s W R K=>by
 refine aR e (cu (R.at ha) λ vs k hv hx=>?_)
 have hl:vs.length=bs.length:=sV (ag (f:=er) (as:=vs)) (ah hx (ae (ag ..) rfl))
 refine call_any_walk (jC (items:=vs.toArray) ⟨_,hv,rfl,_,rfl⟩ ⟨s.heap.objs.size,_,_,_,_,_,_,rfl,Cp (A:=F.A.in1) O.handled s.heap.objs.size a (λ e=>?_) vs.toArray,⟨⟨_,bp _ rfl,rfl,rfl⟩,xz ⟨_,hv,rfl,_,rfl⟩ _⟩,tF hx,λ h' tk hk=>?_⟩)
 ·replace hv:=R.size_none▸e▸hv;exact (bH hv).elim
 ·have R' :cQ C F Z {s with heap:=h',toks:=tk} m U:=R.grow O R.core.upd λ b o e=>hk b o (λ q=>by replace e:=R.size_none▸aq.mp q▸e;exact (bH e).elim) (bb _ e)
  refine ah (show vs.toArray.size=bs.length by exact ae bc hl) (ah (Br ..) ?_)
  exact (K _ _ _ R' h)
end
end
section
section
variable{prog:Program}{w:jk}{A:eN}{E:Value->aO->Prop}{s:aO}
theorem yw{Q:Value->aO->Prop}(hit:s.heap.IsTupleIter it t i)(ht:s.heap.IsTuple t items)(hx:items[i]? =some x)
  (hQ:∀h',h'.IsTupleIter it t (i+1)->ff it s.heap h' ->Q x {s with heap:=h' }):br (bR prog w) A (eO (.ref it)) Q E s:=by
 refine cX (id hit) λ o ho hc hd=>(cX ht λ ol XW V Uv=>?_);clear ht;refine aS Uv λ nl Zi=>?_;clear Uv
 unfold eO
 refine aj (gt (name:=bg "__next__") hit.typeIs xA (d6 xA hit.typeIs F.entry_tuple_iterator_next (((aj (gD ho hd (x:=.ref t) rfl (((ah (if_neg (show¬((aZ t==gh)=true) from c9)) (((aj (gD ho hd (x:=.int i 0) rfl (aj (gr XW Zi ?_)))):br _ _ (L5 (.ref it) 1>>=_) _ _ s))):br _ _ (if (aZ t==gh)=true then _ else _) _ _ s)))):br _ _ (L5 (.ref it) 0>>=_) _ _ s)) (F.args_tuple_iterator_next_1 _)))
 simp only [dT,hx]
 refine aj (qw ho hd (by simp) (aD ⟨x,rfl,aD (hQ _ ⟨_,fu _ ho (Obj.isFreed_of_fields (Ge hd _)),(Obj.cls_mapFields ..).trans hc,?_⟩ (dI ..))⟩))
 rewrite [Ge hd];simp [je]
theorem eL(hs:ff a h h')(hc:c≠a)(e:h.get? c=some o):h'.get? c=some o:=(hs.2 c hc).trans e
structure OD(h h' :Heap)(z TI TO i1 i2 l1 l2 T:Addr)(k:Nat)(x y:Value):Prop where
 oz:vT h' z TI TO (je T)
 oO:qG h' TO x y
 o1:h'.IsListIter i1 l1 (k+1)
 o2:h'.IsTupleIter i2 l2 (k+1)
 oT:qG h' T x y
 rest:∀c o,c≠z->c≠TO->c≠i1->c≠i2->h.get? c=some o->h'.get? c=some o
theorem CW{Q:Option Value->aO->Prop}(D:qB z TI TO i1 i2 l1 l2)
  (hz:vT s.heap z TI TO .none) (ZL:qG s.heap TI (.ref i1) (.ref i2)) (hTO:qG s.heap TO a b) (h1:s.heap.IsListIter i1 l1 k) (h2:s.heap.IsTupleIter i2 l2 k) (hl1:s.heap.IsList l1 xs) (hl2:s.heap.IsTuple l2 ys)
  (hx:xs[k]? =some x) (hy:ys[k]? =some y) (hQ:∀h',OD s.heap h' z TI TO i1 i2 l1 l2 s.heap.objs.size k x y->Q (some (.ref s.heap.objs.size)) {s with heap:=h' }):br (bR prog w) A (jf (.ref z)) Q E s:=by
 have hT:s.TypeIs (.ref z) "zip":=⟨_,hz,rfl⟩
 unfold jf
 refine aj (rA (gt (name:=bg "__next__") hT oy (d6 oy hT LJ (((aj (gD hz rfl (x:=.bool false) rfl (((aj (gD hz rfl (x:=.ref TI) rfl (aj (gr ZL rfl (((aj ?_):br _ _ (eA (.ref z)>>=_) _ _ _)))))):br _ _ (L5 (.ref z) 3>>=_) _ _ _)))):br _ _ (L5 (.ref z) 2>>=_) _ _ _)) (JK _))))
 unfold eA
 refine aj (gD hz rfl (x:=.none) rfl (aD ?_))
 simp only [if_true]
 refine aj (ki (aj (gD hz rfl (x:=.ref TO) rfl (aj (jd hz (by simp) λ H1 z1 b1=>?_)))))
 replace z1:vT H1 z TI TO .ellipsis:=z1
 have p1:∀c o,c≠z->s.heap.get? c=some o->H1.get? c=some o:=λ c o hc=>eL b1 hc
 have i11:H1.IsListIter i1 l1 k:=h1.at λ o=>p1 _ o D.i1z
 have i21:H1.IsTupleIter i2 l2 k:=let ⟨o,ho,r⟩:=h2;⟨o,p1 _ o D.i2z ho,r⟩
 have l11:H1.IsList l1 xs:=zw hl1 λ o=>p1 _ o D.l1z
 have l21:H1.IsTuple l2 ys:=let ⟨o,ho,r⟩:=hl2;⟨o,p1 _ o D.l2z ho,r⟩
 have t1:=p1 _ _ D.TOz hTO
 refine aj ?_
 simp only [GG,IP,j2,JG]
 refine aj (aj (iW (?_:br _ _ (eO (.ref i1)>>=_) _ _ _)))
 refine aj (wpAny_nextOf_list_item i11 l11 hx λ H2 i12 b2=>aD ?_)
 have p2:∀c o,c≠i1->H1.get? c=some o->H2.get? c=some o:=λ c o hc=>eL b2 hc
 have t2:qG H2 TO a b:=p2 _ _ D.TOi1 t1
 refine aj (gr t2 rfl (aj (IH t2 λ H3 t3 b3=>aj (T6 (aD ?_)))))
 replace t3:qG H3 TO x b:=t3
 have p3:∀c o,c≠TO->H2.get? c=some o->H3.get? c=some o:=λ c o hc=>eL b3 hc
 have i23:H3.IsTupleIter i2 l2 k:=let ⟨o,ho,r⟩:=i21;⟨o,p3 _ o D.TOi2.symm (p2 _ o D.i12.symm ho),r⟩
 have l23:H3.IsTuple l2 ys:=let ⟨o,ho,r⟩:=l21;⟨o,p3 _ o D.l2TO (p2 _ o D.l2i1 ho),r⟩
 refine aj (aj (iW (?_:br _ _ (eO (.ref i2)>>=_) _ _ _)))
 refine aj (yw i23 l23 hy λ H4 i24 b4=>aD ?_)
 have p4:∀c o,c≠i2->H3.get? c=some o->H4.get? c=some o:=λ c o hc=>eL b4 hc
 have t4:qG H4 TO x b:=p4 _ _ D.TOi2 t3
 refine aj (gr t4 rfl (aj (IH t4 λ H5 t5 b5=>aj (T6 (aD (aD ?_))))))
 replace t5:qG H5 TO x y:=t5
 have p5:∀c o,c≠TO->H4.get? c=some o->H5.get? c=some o:=λ c o hc=>eL b5 hc
 refine aj (gr t5 rfl (aj (zi ?_)))
 have hsz:H5.objs.size=s.heap.objs.size:=ah b5.1 (ah b4.1 (ah b3.1 (ah b2.1 (ah b1.1 rfl))))
 have z5:vT H5 z TI TO .ellipsis:=p5 _ _ D.TOz.symm (p4 _ _ D.i2z.symm (p3 _ _ D.TOz.symm (p2 _ _ D.i1z.symm z1)))
 have zlt:z<H5.objs.size:=bT z5
 refine (?_:br _ _ (kQ (.ref z) (.ref H5.objs.size)>>=_) _ _ _)
 refine aj ?_
 unfold kQ
 have z6:vT (H5.push {cls:=.type "tuple",data:=.seq #[x,y]}) z TI TO .ellipsis:=bb _ z5
 refine aj (jd z6 (by simp) λ H7 z7 b7=>?_)
 replace z7:vT H7 z TI TO (je H5.objs.size):=z7
 refine jd z7 (by simp) λ H8 z8 b8=>?_
 have p8:∀c o,c≠z->H5.get? c=some o->H8.get? c=some o:=λ c o hc e=>eL b8 hc (eL b7 hc (bb _ e))
 refine aD ⟨_,rfl,aD ?_⟩
 refine (?_:Q (some (.ref H5.objs.size)) _)
 refine ah hsz ?_
 have z8' :vT H8 z TI TO (je H5.objs.size):=z8
 refine hQ H8 ⟨hsz▸z8',p8 _ _ D.TOz t5,?_,?_,hsz▸ ?_,λ c o c1 c2 c3 c4 e=>p8 _ _ c1 (p5 _ _ c2 (p4 _ _ c4 (p3 _ _ c2 (p2 _ _ c3 (p1 _ _ c1 e)))))⟩
 ·exact i12.at λ o e=>p8 _ o D.i1z (p5 _ o D.TOi1.symm (p4 _ o D.i12 (p3 _ o D.TOi1.symm e)))
 ·refine aH i24 λ o ho r=>?_;clear i24;exact bY o (p8 _ o D.i2z (p5 _ o D.TOi2.symm ho)) r
 ·exact eL b8 (cj zlt) (eL b7 (cj zlt) (bp _ rfl))
theorem CY{Q:Option Value->aO->Prop}(hh:A.handled=none)(D:qB z TI TO i1 i2 l1 l2)
  (hz:vT s.heap z TI TO .none) (ZL:qG s.heap TI (.ref i1) (.ref i2)) (hTO:qG s.heap TO a b) (h1:s.heap.IsListIter i1 l1 k) (hl1:s.heap.IsList l1 xs)
  (hx:xs[k]? =none) (hQ:∀h',(∀c o,c≠z->c≠i1->s.heap.get? c=some o->h'.get? c=some o)->Q none {s with heap:=h' }):br (bR prog w) A (jf (.ref z)) Q E s:=by
 have hT:s.TypeIs (.ref z) "zip":=⟨_,hz,rfl⟩
 unfold jf
 refine aj (rA (gt (name:=bg "__next__") hT oy (d6 oy hT LJ (((aj (gD hz rfl (x:=.bool false) rfl (((aj (gD hz rfl (x:=.ref TI) rfl (aj (gr ZL rfl (((aj ?_):br _ _ (eA (.ref z)>>=_) _ _ _)))))):br _ _ (L5 (.ref z) 3>>=_) _ _ _)))):br _ _ (L5 (.ref z) 2>>=_) _ _ _)) (JK _))))
 unfold eA
 refine aj (gD hz rfl (x:=.none) rfl (aD ?_))
 simp only [if_true]
 refine aj (ki (aj (gD hz rfl (x:=.ref TO) rfl (aj (jd hz (by simp) λ H1 z1 b1=>?_)))))
 replace z1:vT H1 z TI TO .ellipsis:=z1
 have p1:∀c o,c≠z->s.heap.get? c=some o->H1.get? c=some o:=λ c o hc=>eL b1 hc
 have i11:H1.IsListIter i1 l1 k:=h1.at λ o=>p1 _ o D.i1z
 have l11:H1.IsList l1 xs:=zw hl1 λ o=>p1 _ o D.l1z
 refine aj ?_
 simp only [GG,IP,j2,JG]
 refine aj (aj (iW (?_:br _ _ (eO (.ref i1)>>=_) _ _ _)))
 refine aj (wpAny_nextOf_list_end hh i11 l11 hx λ H2 e b2 he=>?_)
 clear b1 hT hz;refine aH he λ oe Ys hce=>?_;clear he
 have z2:vT H2 z TI TO .ellipsis:=b2 _ _ D.i1z.symm z1
 have hez:e≠z:=λ q=>by clear D hQ p1 z1;subst q;replace Ys:=z2▸Ys;have Uy:=sI Ys;clear Ys;subst Uy;simp at hce
 exact jd z2 (by simp) λ H3 V b3=>(aj (kj (T:="StopIteration") (b:=true) ⟨oe,eL b3 hez Ys,hce⟩ RJ (aD (hQ _ λ c o c1 c2 q=>eL b3 c1 (b2 _ _ c2 (p1 _ _ c1 q))))))
end
end
section
open Sem (wp)
noncomputable abbrev tC(f:Value)(TI TO:Addr):Obj:={cls:=.type "zip",dict:=none,data:=.fields #[f,.bool false,.bool false,.ref TI,.ref TO],slots:=#[]}
noncomputable abbrev p_(a b:Value):Obj:={cls:=.type "tuple",data:=.seq #[a,b]}
noncomputable abbrev ra(l:Addr)(k:Nat):Obj:={cls:=.type "list_iterator",data:=.fields #[.ref l,.int k 0]}
noncomputable abbrev rH(l:Addr)(k:Nat):Obj:={cls:=.type "tuple_iterator",data:=.fields #[.ref l,.int k 0]}
noncomputable abbrev LN(h:Heap)(l1:Addr):Heap:=h.push (ra l1 0)
noncomputable abbrev LM(h:Heap)(l1 l2:Addr):Heap:=(LN h l1).push (rH l2 0)
noncomputable abbrev LL(h:Heap)(l1 l2:Addr):Heap:=(LM h l1 l2).push (p_ (.ref h.objs.size) (.ref (LN h l1).objs.size))
noncomputable abbrev Pa(h:Heap)(l1 l2:Addr):Heap:=(LL h l1 l2).push (p_ .none .none)
noncomputable abbrev SN(h:Heap)(l1 l2:Addr):Heap:=(Pa h l1 l2).push (tC .none (LM h l1 l2).objs.size (LL h l1 l2).objs.size)
theorem Bz(l1 l2:Addr)(xs ys:Array Value):
  Meets (eU.«zip.__new__» ⟨[.type "zip",.ref l1,.ref l2],[]⟩) (λ V R s=>s.heap.IsList l1 xs/\s.heap.IsTuple l2 ys/\R (.ok (.ret (.ref (Pa s.heap l1 l2).objs.size))) {s with heap:=SN s.heap l1 l2}):=
 .of_wp λ prog w A R s h=>by
  obtain ⟨hp,g,d,tk,os⟩:=s;refine ck h λ hl1 hl2 h=>?_
  have hsub:=sub_zip
  have hL1:Heap.IsList (LG ⟨hp,g,d,tk,os⟩) l1 xs:=hl1
  have hL2:Heap.IsTuple (LG ⟨hp.push {cls:=.type "list_iterator",data:=.fields #[.ref l1,.int 0 0]},g,d,tk,os⟩) l2 ys:=PI hl2 _
  wp_walk using jC hL1,Lq hL2
  exact bY _ rfl h
section
variable{C:Cx}{F:dD}{n:Nat}{m:Str->Option Value}{U U' :AH}{Z Y Y' :List (Addr×Obj)}{s s' :aO}
noncomputable def PK(U:AH)(z TI TO i1 i2 l1 l2:Addr):AH:=((((U.put i1 (.raw (ra l1 0))).put i2 (.raw (rH l2 0))).put TI (.raw (p_ (.ref i1) (.ref i2)))).put TO (.raw (p_ .none .none))).put z (.raw (tC .none TI TO))
theorem JO{Q:Value->AH->Prop}(h1:U.rd l1=some (.list xs))(h2:U.rd l2=some (.tup ys))
  (h:∀z TI TO i1 i2,qB z TI TO i1 i2 l1 l2->U.get i1=none->(U.put i1 (.raw (ra l1 0))).get i2=none->((U.put i1 (.raw (ra l1 0))).put i2 (.raw (rH l2 0))).get TI=none->
   (((U.put i1 (.raw (ra l1 0))).put i2 (.raw (rH l2 0))).put TI (.raw (p_ (.ref i1) (.ref i2)))).get TO=none->((((U.put i1 (.raw (ra l1 0))).put i2 (.raw (rH l2 0))).put TI (.raw (p_ (.ref i1) (.ref i2)))).put TO (.raw (p_ .none .none))).get z=none->
   Q (.ref z) (PK U z TI TO i1 i2 l1 l2)):WB C F n (.type "zip") [.ref l1,.ref l2] m U (qe Q):=λ Us e O Zz s W R K=>by
 refine Ro e (cu (R.at h1) λ vs k hv hx=>(cu (R.at h2) λ ws k' hw hy=>(callType_new PySem.F.called_zip (by decide) (PySem.F.typeCall_zip_2 _ _) (PySem.F.newCall_zip_2 _ _) (λ fS=>PySem.F.args_object_init_3 fS _ _) PySem.F.entry_zip_new (Bz l1 l2 vs.toArray ws.toArray) ⟨⟨_,hv,rfl,_,rfl⟩,⟨_,hw,rfl,_,rfl⟩,?_⟩)))
 have a1:l1<s.heap.objs.size:=bT hv
 have a2:l2<s.heap.objs.size:=bT hw
 refine aP (R.push (tk:=s.toks) O (o:=ra l1 0) (ao:=.raw (ra l1 0)) (bp _ rfl)) λ R1 n1=>(aP (R1.push (tk:=s.toks) O (o:=rH l2 0) (ao:=.raw (rH l2 0)) (bp _ rfl)) λ R2 n2=>(aP (R2.push (tk:=s.toks) O (o:=p_ (.ref s.heap.objs.size) (.ref (LN s.heap l1).objs.size)) (ao:=.raw (p_ (.ref s.heap.objs.size) (.ref (LN s.heap l1).objs.size))) (bp _ rfl)) λ R3 n3=>(aP (R3.push (tk:=s.toks) O (o:=p_ .none .none) (ao:=.raw (p_ .none .none)) (bp _ rfl)) λ R4 n4=>(aP (R4.push (tk:=s.toks) O (o:=tC .none (LM s.heap l1 l2).objs.size (LL s.heap l1 l2).objs.size) (ao:=.raw (tC .none (LM s.heap l1 l2).objs.size (LL s.heap l1 l2).objs.size)) (bp _ rfl)) λ R5 n5=>?_))))
 have z1:(LN s.heap l1).objs.size=s.heap.objs.size+1:=fi ..
 have z2:(LM s.heap l1 l2).objs.size=s.heap.objs.size+2:=ae (fi ..) (ah z1 rfl)
 have z3:(LL s.heap l1 l2).objs.size=s.heap.objs.size+3:=ae (fi ..) (ah z2 rfl)
 have z4:(Pa s.heap l1 l2).objs.size=s.heap.objs.size+4:=ae (fi ..) (ah z3 rfl)
 have ap:qB (Pa s.heap l1 l2).objs.size (LM s.heap l1 l2).objs.size (LL s.heap l1 l2).objs.size s.heap.objs.size (LN s.heap l1).objs.size l1 l2:=ah z1 (ah z2 (ah z3 (ah z4 (zipApart_new a1 a2))))
 refine ⟨⟨_,bp _ rfl,rfl⟩,K _ _ _ R5 (h _ _ _ _ _ ap n1 n2 n3 n4 n5)⟩
noncomputable def xn(o:Obj)(t:String)(l:Addr)(k:Nat):Prop:=o.cls=.type t/\o.data=.fields #[.ref l,.int k 0]
structure Fx(U:AH)(z TI TO i1 i2 l1 l2:Addr)(f a b:Value)(k:Nat)(xs ys:List Value):Prop where
 D:qB z TI TO i1 i2 l1 l2
 gz:U.get z=some (.raw (tC f TI TO))
 gO:U.get TO=some (.raw (p_ a b))
 gI:U.get TI=some (.raw (p_ (.ref i1) (.ref i2)))
 g2:∃o,U.get i2=some (.raw o)/\xn o "tuple_iterator" l2 k
 g1:∃o,U.get i1=some (.raw o)/\xn o "list_iterator" l1 k
 gx:U.rd l1=some (.list xs)
 gy:U.rd l2=some (.tup ys)
theorem w9{Q:Option Value->AH->Prop}(G:Fx U z TI TO i1 i2 l1 l2 .none a b k xs ys)(hx:xs[k]? =some xv)(hy:ys[k]? =some yv)
  (h:∀T x y o1 o2,er x=xv->er y=yv->U.get T=none->xn o1 "list_iterator" l1 (k+1)->xn o2 "tuple_iterator" l2 (k+1)->Q (some (.ref T)) (((((U.put T (.tup [xv,yv])).put z (.raw (tC (je T) TI TO))).put TO (.raw (p_ x y))).put i1 (.raw o1)).put i2 (.raw o2))):WO C F n (jf (.ref z)) m U Q:=λ O Zz s W R K=>by
 refine cu (R.at G.gx) λ vs c hv e1=>(cu (R.at G.gy) λ ws c' hw e2=>?_)
 replace hx:=ay▸dc e1▸hx
 replace hy:=ay▸dc e2▸hy
 refine aH (aX.mp hx) λ x hx' Uv=>?_;subst Uv
 refine aH (aX.mp hy) λ y Xh Uy=>?_;subst Uy
 have oz:s.heap.get? z=some (tC .none TI TO):=(R.sg _ _ G.gz).2
 have oO:s.heap.get? TO=some (p_ a b):=(R.sg _ _ G.gO).2
 have oI:s.heap.get? TI=some (p_ (.ref i1) (.ref i2)):=(R.sg _ _ G.gI).2
 refine cX G.g1 λ q1 g1 c1 d1=>(cX G.g2 λ q2 g2 c2 d2=>?_)
 have o1:s.heap.get? i1=some q1:=(R.sg _ _ g1).2
 have o2:s.heap.get? i2=some q2:=(R.sg _ _ g2).2
 refine CW (xs:=vs.toArray) (ys:=ws.toArray) G.D oz oI oO ⟨_,o1,c1,d1⟩ ⟨_,o2,c2,d2⟩ ⟨_,hv,rfl,_,rfl⟩ ⟨_,hw,rfl,_,rfl⟩ (by simpa using hx') (by simpa using Xh) λ h' Uu=>?_
 have hT:=R.fresh R.size_none
 clear o1 o2 oI oO oz;refine aH Uu.o1 λ w1 u1 v1=>(aH Uu.o2 λ w2 u2 v2=>?_)
 have hnT:∀{c:Addr} {o:Obj},s.heap.get? c=some o->s.heap.objs.size≠c:=λ e=>cj (bT e)
 refine (K _ _ _ (R.step (s' :={s with heap:=h' }) O ⟨R.core.gens,R.core.os,R.core.dr⟩ (λ c=>c=z\/c=TO\/c=i1\/c=i2) (λ c hc=>?_) (λ c o hc e=>?_) (λ c o e=>?_)) (h s.heap.objs.size x y w1 w2 rfl rfl hT v1 v2))
 ·clear Uu h u1 u2;rcases hc with rfl | rfl | rfl | rfl
  ·exact ⟨_,G.gz⟩
  ·exact ⟨_,G.gO⟩
  ·exact ⟨_,g1⟩
  ·exact ⟨_,g2⟩
 ·exact Uu.rest c o (λ q=>hc (.inl q)) (λ q=>hc (.inr (.inl q))) (λ q=>hc (.inr (.inr (.inl q)))) (λ q=>hc (.inr (.inr (.inr q)))) e
 ·replace e:=(AH.get_put ..)▸e
  split at e
  ·rename_i q;have UB:=sI e;clear e;subst UB;exact .inr ⟨.inl (.inr (.inr (.inr q))),q▸u2⟩
  rename_i n2
  replace e:=(AH.get_put ..)▸e
  split at e
  ·rename_i q;have UC:=sI e;clear e;subst UC;exact .inr ⟨.inl (.inr (.inr (.inl q))),q▸u1⟩
  rename_i n1
  replace e:=(AH.get_put ..)▸e
  split at e
  ·rename_i q;have UF:=sI e;clear e;subst UF;exact .inr ⟨.inl (.inr (.inl q)),q▸Uu.oO⟩
  rename_i nO
  replace e:=(AH.get_put ..)▸e
  split at e
  ·rename_i q;have UP:=sI e;clear e;subst UP;exact .inr ⟨.inl (.inl q),q▸Uu.oz⟩
  rename_i nz
  replace e:=(AH.get_put ..)▸e
  split at e
  ·rename_i q;have UQ:=sI e;clear e;subst UQ
   refine .inr ⟨.inr ⟨q▸R.size_none,q▸R.top O⟩,q▸⟨[x,y],0,Uu.oT,rfl⟩⟩
  ·exact .inl ⟨e,λ q=>by rcases q with q | q | q | q<;>contradiction⟩
theorem za{Q:Option Value->AH->Prop}(G:Fx U z TI TO i1 i2 l1 l2 .none a b k xs ys)(hx:xs[k]? =none)
  (hs:∀c o,U'.get c=some o->U.get c=some o/\c≠z/\c≠i1) (h:Q none U'):WO C F n (jf (.ref z)) m U Q:=λ O Zz s W R K=>by
 refine cu (R.at G.gx) λ vs c hv e1=>?_
 replace hx:=ay▸dc e1▸hx
 have oz:s.heap.get? z=some (tC .none TI TO):=(R.sg _ _ G.gz).2
 have oO:s.heap.get? TO=some (p_ a b):=(R.sg _ _ G.gO).2
 have oI:s.heap.get? TI=some (p_ (.ref i1) (.ref i2)):=(R.sg _ _ G.gI).2
 refine cX G.g1 λ q1 g1 c1 d1=>?_
 have o1:s.heap.get? i1=some q1:=(R.sg _ _ g1).2
 refine CY (xs:=vs.toArray) O.handled G.D oz oI oO ⟨_,o1,c1,d1⟩ ⟨_,hv,rfl,_,rfl⟩ (by simpa using hx) λ h' Uu=>(K _ _ _ (R.step (s' :={s with heap:=h' }) O ⟨R.core.gens,R.core.os,R.core.dr⟩ (λ c=>c=z\/c=i1) (λ c hc=>?_) (λ c o hc e=>?_) (λ c o e=>?_)) h)
 ·clear Uu hs o1 oI oz;rcases hc with rfl | rfl
  ·exact ⟨_,G.gz⟩
  ·exact ⟨_,g1⟩
 ·exact Uu c o (λ q=>hc (.inl q)) (λ q=>hc (.inr q)) e
 ·exact ck (hs c o e) λ a1 a2 a3=>(.inl ⟨a1,λ q=>q.elim a2 a3⟩)
theorem w_{z TI TO T:Addr}{Q:Unit->AH->Prop}(gz:U.get z=some (.raw (tC (je T) TI TO)))(h:Q () (U.put z (.raw (tC .none TI TO)))):WO C F n (gU (.Tuple UX x1 pos) (.ref z) (.ref T)) m U Q:=λ O Zz s W R K=>by
 have oz:s.heap.get? z=some (tC (je T) TI TO):=(R.sg _ _ gz).2
 exact wpAny_letOwnedTupleGo_zip oz λ h' XU hs' =>(K _ _ _ (R.set (s' :={s with heap:=h' }) O ⟨R.core.gens,R.core.os,R.core.dr⟩ gz (λ b o nb e=>(hs'.2 b nb).trans e) (o:=.raw (tC .none TI TO)) XU) h)
theorem Iw{Q:(Str->Option Value)->AH->Prop}(he:lX UX F.env=UX.map λ t=>(false,nj t F.env))(hT:U.rd T=some (.tup xs))(hl:xs.length=UX.length)
  (h:FS C F n UX xs m U Q):Jv C F n (.Tuple UX k tp) (.ref T) m U Q:=λ v' e O Zz s W R K=>by
 refine lA e (cu (R.at hT) λ vs c hv hx=>?_)
 have hlen:=eK hx
 refine Lx (items:=vs.toArray) O.handled ⟨_,hv,rfl,_,rfl⟩ (by rewrite [he,ag,bc];exact (hlen.trans hl).symm) (ah he (Am UX _)) λ h' hk=>?_
 have R₂:cQ C F Zz {s with heap:=h' } m U:=R.grow O ⟨R.core.gens,R.core.os,R.core.dr⟩ λ b o e=>hk b o (bP (bT e)) e
 have e2:(lX UX F.env).map (λ x=>x.2)=UX.map λ t=>nj t F.env:=ah he (ae bI rfl)
 exact ah e2 (FS.run O UX vs (hlen.trans hl) (hx▸h) R₂ K)
end
end
section
section
variable{C:Cx}{F:dD}{n:Nat}{m:Str->Option Value}{U U' :AH}{Z Y Y' :List (Addr×Obj)}{s s' :aO}{sc:Scope}
structure Li{α:Type}(C:Cx)(F:dD)(n:Nat)(g:ce)(G:α->(Str->Option Value)->AH->(α->AH->Prop)->Prop)(I:Addr)(J:Nat->α->AH->Prop)(m:Str->Option Value)(Q:α->AH->Prop):Prop where
 again:∀k y U,J k y U->∀(F' :dD) (A:eN) (s:aO) (Z:List (Addr×Obj)) (m' :Str->Option Value) (P E:Value->aO->Prop),cQ C F' Z s m' U->P (.ref I) s->br (bR C.prog C.w) A (qx (.ref I)) P E s
 next:∀k y U,J k y U->WO C F n (jf (.ref I)) m U λ r U1=>match r with
  | none=>Q y U1
  | some v=>∃k',k=k' +1/\WO C F n (gU g.target (.ref I) v) m U1 λ V Uq=>Jv C F n g.target (er v) m Uq λ m1 Ux=>(∀z w,m z=some w->m1 z=some w)/\
    rf C F n g.ifs m1 Ux λ ok U4=>if ok then G y m1 U4 (λ y' U5=>J k' y' U5) else J k' y U4
theorem BV{α:Type}{Acc:Obj->α->Prop}{G:α->(Str->Option Value)->AH->(α->AH->Prop)->Prop}
  (O:F.Ok C n) (W:iB e gens emit Ur F.env) (hg:gens[d]? =some g) (ha:g.is_async=0) (hin:rz C F n (iz e gens emit d (.ref Ur) F.env) Ur Acc G)
 {J:Nat->α->AH->Prop} {y:α} {m:Str->Option Value} {U:AH} {Q:α->AH->Prop} {Z:List (Addr×Obj)} {s:aO} {ob:Obj} {k:Nat}
  (N:Li C F n g G I J m Q) (h0:J k y U) (R:cQ C F (Z++[(Ur,ob)]) s m U) (hza:∀p∈Z,p.1≠Ur) (WQ:Acc ob y):
  iZ (bR C.prog C.w) F.A (.compStart e d (.ref I) (.ref Ur) F.env)
   (λ r s' =>∃f,r=.ok f/\∃UN y' U',cQ C F (Z++[(Ur,UN)]) s' m U' /\Acc UN y' /\Q y' U') s:=by
 have loop:iZ (bR C.prog C.w) F.A (.compLoop e d (.ref I) (.ref Ur) F.env)
   (λ r s' =>∃f,r=.ok f/\∃UN y' U',cQ C F (Z++[(Ur,UN)]) s' m U' /\Acc UN y' /\Q y' U') s:=by
  refine TM (W.frL _ _ _ _).2.2.2 (λ j s' =>∃y ob U,cQ C F (Z++[(Ur,ob)]) s' m U/\Acc ob y/\J j y U)
   (λ j s' ⟨y',UN,U',R',Wv,hJ⟩=>(ah (iU (W.frL _ _ _ _).2.1 (W.frL _ _ _ _).2.2.1) (ah (show (bR C.prog C.w).den=vp rC from rfl) (ah (pJ (W.frL _ _ _ _).1) (ah (W.turn d g _ hg) (ah (tE ha) (iW (dG (Q:=_) (aj (eR (aj (N.next j y' U' hJ O _ s' _ R' λ r s₁ U1 R₁ Ut=>?_)))) (λ V V x=>x) uw)))))))) k ⟨y,ob,U,R,WQ,h0⟩
  cases r with
  | none=>exact aD ⟨.next,rfl,UN,y',U1,R₁,Wv,Ut⟩
  | some v=>
   refine aH Ut λ k' hk' UL=>?_;clear Ut
   refine aj (UL O _ s₁ _ R₁ λ V s₂ Uq R₂ h₃=>(aj (h₃ v rfl O _ s₂ _ R₂ λ s₄ m4 U4 R₄ UO=>(aP UO λ hm hc=>?_))));clear UO
   refine aj (rI O g.ifs hc R₄ λ ok WD U5 R₅ VD=>?_)
   cases ok with
   | true=>
    simp only [if_true] at VD⊢
    exact hin VD R₅ hza Wv _ _ (λ s6 Zp y6 U6 R₆ Yz ZP=>(aD ⟨rfl,k',yc hk' (aK _),y6,Zp,U6,R₆.forget hm,Yz,ZP⟩))
   | false=>
    simp only [aV,if_false] at VD⊢
    exact aD ⟨rfl,k',yc hk' (aK _),y',UN,U5,R₅.forget hm,Wv,VD⟩
 refine oY (ah (iU (W.frS _ _ _ _).2.1 (W.frS _ _ _ _).2.2) (ah (show (bR C.prog C.w).den=vp rC from rfl) (ah (og (W.frS _ _ _ _).1) (iW (dG (Q:=_) ?_ (λ V V x=>x) uw)))))
 unfold compStart
 simp only [W.cl,hg,CM,ha]
 have q:=(W.frL d (.ref I) (.ref Ur) F.env).2.2.2
 refine (?_:br _ _ (ask>>=_) _ _ _)
 refine aj (gu (wpAny_ite (eC (λ V=>?_) λ V=>?_)))
 ·exact aD ⟨q,loop⟩
 ·refine aj (ki (aj (eR (aj ?_))))
  exact N.again k y U h0 F _ _ _ m _ _ R (aD ⟨q,loop⟩)
theorem yQ{α:Type}{pos:Pos}{VR:Sem Value}{ob0:Obj}{y0:α}{Acc:Obj->α->Prop}{aoOf:α->ba}
  {emit:Addr->Env->Sem Unit} {E:dD->α->(Str->Option Value)->AH->(α->AH->Prop)->Prop} {XQ:Option (Value->Sem Unit)} {QQ:Value->aO->Prop} {Q' :α->AH->Prop}
  (O:F.Ok C n) (R:cQ C F Z s m U) (S:pV F sc) (hcl:vq e=gens) (Xa:gens=g::gs) (ZH:g.is_async=0) (hs:∀x,da g.iter F.env x=eu x)
  (W:∀Ur env,iB e gens (emit Ur env) Ur env) (hE:∀F' Ur,sJ C F' n (emit Ur F'.env) Ur Acc (E F'))
  (hnew:∀{s:aO} {Q:Value->aO->Prop},Q (.ref s.heap.objs.size) {s with heap:=s.heap.push ob0}->br (bR C.prog C.w) F.A VR Q (λ V V=>False) s) (hf0:ob0.isFreed=false) (h0:Acc ob0 y0)
  (ZR:∀h a ob y,h.get? a=some ob->Acc ob y->At C h a (aoOf y))
  (h:WE C F n g.iter m U λ x U1=>∃I J k,x=.ref I/\J k y0 U1/\∀L2 mL,Li C (Fc F sc L2 mL) n g (CG C (Fc F sc L2 mL) n (E (Fc F sc L2 mL)) gs) I J (jz sc m) Q')
  (hQ:∀Ur y U' L2 oL s',cQ C F (Z++[(L2,oL)]) s' m (U'.put Ur (aoOf y))->(∀p∈Z,L2≠p.1)->(∃ml,s'.heap.Ns L2 ml)->U'.get Ur=none->Q' y U' ->
   compPost (bR C.prog C.w) F.A (λ V V=>False) XQ QQ (.ref Ur) L2 (.ok .next) s'):
  br (bR C.prog C.w) F.A (ku e sc F.env pos VR false (gb g.iter F.env) XQ) QQ (λ V V=>False) s:=by
 subst hcl
 have hfr:∀x∈sc.names,x.2=.free->∃c,F.cells.lookup x.1=some c:=λ x hx hf=>aP (S.free x hx hf) λ hk hc=>(O.cok _ hk hc)
 refine Cm Xa hs (oh λ x hx hf=>?_) S.kind (λ x hx hl=>dt hl ((iq S.nodup).mpr hx)) ?_
 ·exact aS (hfr x hx hf) λ c h=>⟨c,O.csub _ _ h⟩
 have ecl:d7 F.env.cells sc.names []=d7 F.cells sc.names []:=jp _ _ λ x hx hf=>aS (hfr x hx hf) λ c h=>(ah h (ae (O.csub _ _ h) rfl))
 refine ah ecl (h O Z s _ R λ x s₂ Uq R₃ UO=>(pG UO λ I J k ex hJ N=>?_));clear UO
 refine lA ex ((N 0 (λ V=>none)).again k y0 Uq hJ F _ _ _ m _ _ R₃ (hnew ?_))
 generalize hacc:s₂.heap.objs.size=Ur
 have newA:s₂.heap.get? Ur=none:=hacc▸R₃.size_none
 have accTop:3<Ur:=hacc▸R₃.top O
 have R₄:cQ C F (Z++[(Ur,ob0)]) {s₂ with heap:=s₂.heap.push ob0} m Uq:=
  cQ.stepZ (s' :={s₂ with heap:=s₂.heap.push ob0}) (Y:=[]) (Y' :=[(Ur,ob0)]) O R₃.nilZ ⟨R₃.core.gens,R₃.core.os,R₃.core.dr⟩ (λ b o V e=>bb ob0 e)
   (λ p hp=>ah (aq.mp hp) ⟨dt hacc (bp _ hf0),.inr newA⟩) (λ p V q hq=>absurd hq (dB))
 have zA:∀p∈Z,p.1≠Ur:=λ p hp e=>by have:=(R₃.zz p hp).1;replace this:=newA▸e▸this;exact (bH this).elim
 generalize hs3:({s₂ with heap:=s₂.heap.push ob0}:aO)=s₃ at R₄⊢
 refine pk (jo (R₄.block O S) λ mL Zx O' XY R₅ back=>?_)
 generalize hL2:s₃.heap.objs.size=L2 at O' R₅ back⊢
 have zL:∀p∈Z++[(Ur,ob0)],p.1≠L2:=λ p hp e=>by
  have:=bT (R₄.zz p hp).1
  replace this:=e▸hL2▸this;exact absurd this (cC _)
 have zx:∀p∈Zx,∀q∈Z++[(Ur,ob0)],q.1≠p.1:=λ p hp q hq=>(R₄.own _ (XY p hp)).2.2 q hq
 have mA:(Ur,ob0)∈Z++[(Ur,ob0)]:=ak _ (aN _)
 have R₆:cQ C (Fc F sc L2 mL) ((Z++Zx)++[(Ur,ob0)]) {s₃ with heap:=km (s₃.heap.push {cls:=.type "dict",data:=.dict #[]}) sc.names} (jz sc m) Uq:=
  R₅.memZ λ p hp=>by
   simp only [az,aq] at hp⊢
   rcases hp with (h | h) | h<;>simp [h]
 have hg0:(vq e)[0]? =some g:=ah Xa rfl
 have run:=BV (F:=Fc F sc L2 mL) O' (W Ur (Fc F sc L2 mL).env) hg0 ZH (wI (F:=Fc F sc L2 mL) O' (W Ur _) (hE (Fc F sc L2 mL) Ur) gs 0 g (ah Xa rfl))
  (N L2 mL) hJ R₆ (λ p hp=>by
   rcases az.mp hp with hp | hp
   ·exact zA p hp
   ·exact (zx p hp _ mA).symm) h0
 refine eS run λ r s' UO=>(aH UO λ f hr Uv=>?_);clear UO;refine pG Uv λ UN y' U' R7 Wv hq=>?_;clear Uv
 subst hr
 refine aS R7.loc λ Zq hn2=>(pH (id hn2) λ oL Vd ep2 hoL VK=>?_)
 have R8:cQ C F ((Z++[(L2,oL)])++[(Ur,UN)]) s' m U' :=by
  refine back s' _ _ U' R7 (λ p hp=>av _ (ak _ hp)) λ p hp=>?_
  simp only [az,aq] at hp
  rcases hp with (hp | rfl) | rfl
  ·exact ⟨.inl (by simp [hp]),λ a ha=>(R₄.own a ha).2.2 p (av _ hp)⟩
  ·refine ⟨.inr ⟨rfl,hoL⟩,λ a ha e=>(aP (R₄.own a ha) λ Uy V=>(aP Uy λ UF V=>?_))⟩;clear Uy;obtain ⟨o,h⟩:=UF
   have:=bT h
   replace this:=dc e▸hL2▸this;exact absurd this (cC _)
  ·exact ⟨.inl (by simp),λ a ha=>(R₄.own a ha).2.2 (Ur,ob0) mA⟩
 have hacc' :s'.heap.get? Ur=some UN :=(R8.zz _ (ak _ (aN _))).1
 have hL2a:L2≠Ur:=(zL _ mA).symm
 have ZY:=R8.adopt O (ao:=aoOf y') (λ p hp=>by
  rcases az.mp hp with hp | hp
  ·exact zA p hp
  ·exact ah (aq.mp hp) hL2a) accTop (ZR _ _ _ _ hacc' Wv)
 have:=hQ Ur y' U' L2 oL s' ZY (λ p hp=>(zL p (av _ hp)).symm) ⟨Zq,hn2⟩ (R8.zz _ (ak _ (aN _))).2.2.2 hq
 (try clear hQ);cases XQ with
 | none=>exact this
 | some u=>exact this
theorem Cg{Q:ig->(Str->Option Value)->AH->Prop}
  (We:iE (.ListComp UI (⟨t,it,ifs,0⟩::gs) sc pos') (some (.Name x p')) pos.line F.env=eu true) (Sx:Stores F x) (S:pV F sc) (hs:∀x,da it F.env x=eu x)
  (h:WE C F n it m U λ XZ U1=>∃I J k,XZ=.ref I/\J k [] U1/\∀L2 mL,Li C (Fc F sc L2 mL) n ⟨t,it,ifs,0⟩ (CG C (Fc F sc L2 mL) n (EL C n UI (Fc F sc L2 mL)) gs) I J (jz sc m)
   (λ ys U' =>∀b,U'.get b=none->Q .next (fA m x (.ref b)) (U'.put b (.list ys)))):
  W1 C F n (.Assign [.Name x p'] (.ListComp UI (⟨t,it,ifs,0⟩::gs) sc pos') pos) m U Q:=λ O Z s W R K=>by
 refine ah (Gu _ _ _ _ We) (aj (eR (aj (((aj (yQ (g:=⟨t,it,ifs,0⟩) (gs:=gs) (Acc:=IG) (ob0:=listOf #[] 0) (y0:=[]) (aoOf:=.list) (emit:=λ Ur env=>rZ UI (.ref Ur) env) (E:=EL C n UI) O R S rfl rfl rfl hs (λ Ur env=>uO _ _ _ _ Ur env)
  (λ F' Ur=>rY UI F' Ur) (λ h=>mO h) rfl ⟨[],0,rfl,rfl⟩ (λ h a ob y e UB=>by refine cu UB λ vs c q e' =>?_;clear UB;exact ib vs c (ae e (ah q rfl)) e') h λ Ur y U' L2 oL s' R' hz hns hf hq=>?_)):br _ _ (do let _<-ku _ sc F.env _ (LZ []) false (gb it F.env) (some (nj (.Name x p') F.env))) _ _ s)))))
 refine mw (i7 O R' Sx λ Zm Va =>(aS hns λ ml hns=>?_))
 have hoL:=(R'.zz _ (ak _ (aN _))).1
 have V_ :=(Va.zz _ (ak _ (aN _))).1
 simp only at hoL V_
 refine bY ml (en hns (λ o e=>by replace e:=hoL▸e;clear R' Va hoL;have UC:=sI e;clear e;subst UC;exact V_)) (λ h' hs' =>aD (aD (K _ _ _ _ (Va.letGo O hz hs') (hq Ur hf))))
end
end
section
noncomputable def HS(P:Option (Addr×Ad×SS))(U:AH)(E:List (Addr×ba)):Prop:=match P with
 | none=>Fl U E
 | some p=>St p.1 p.2.1 p.2.2 U E
section
variable{C:Cx}{F:dD}{n:Nat}{m:Str->Option Value}{U U' :AH}{X:Sx}{P:Option (Addr×Ad×SS)}{E E' :List (Addr×ba)}{a b:Addr}{o o' :ba}
theorem Fl.perm(T:Fl U E)(h:E.Perm E'):Fl U E' :=⟨λ p hp=>T.xt p (h.mem_iff.mpr hp),(h.map _).nodup_iff.mp T.nd⟩
theorem Fl.subl(T:Fl U E)(h:E'.Sublist E):Fl U E' :=⟨λ p hp=>T.xt p (h.subset hp),T.nd.sublist (h.map _)⟩
theorem HS.at_(H:HS P U E)(h:(a,o)∈E):U.get a=some o:=by
 cases P with
 | none=>exact Fl.xt H _ h
 | some p=>exact St.at_ H h
theorem HS.fresh(H:HS P U E)(h:U.get a=none):HS P (U.put a o) ((a,o)::E):=by
 cases P with
 | none=>exact Fl.fresh H h
 | some p=>exact St.fresh H h
theorem HS.turn(H:HS P U E)(h:jP a o o' E E'):HS P (U.put a o') E' :=by
 cases P with
 | none=>exact Fl.turn H h
 | some p=>exact St.turn H h
theorem HS.perm(H:HS P U E)(h:E.Perm E'):HS P U E' :=by
 cases P with
 | none=>exact Fl.perm H h
 | some p=>exact St.perm H h
theorem HS.subl(H:HS P U E)(h:E'.Sublist E):HS P U E' :=by
 cases P with
 | none=>exact Fl.subl H h
 | some p=>exact St.subl H h
theorem HS.nd(H:HS P U E):(E.map (·.1)).Nodup:=by
 cases P with
 | none=>exact Fl.nd H
 | some p=>exact St.nd H
theorem HS.same(H:HS P U E)(h:(a,o)∈E)(h' :(a,o')∈E):o=o' :=by
 have h1:=H.at_ h
 replace h1:=H.at_ h' ▸h1
 exact (bq h1).symm
theorem HS.rd(H:HS P U E)(h:(a,o)∈E)(hr:∀ob v,o≠ .ro ob v):U.rd a=some o:=e0 (H.at_ h) hr
theorem HS.tup(H:HS P U E)(h:(a,.tup xs)∈E):U.rd a=some (.tup xs):=H.rd h (by intro _ _ h;cases h)
theorem HS.lst(H:HS P U E)(h:(a,.list xs)∈E):U.rd a=some (.list xs):=H.rd h (by intro _ _ h;cases h)
theorem jP.mem'(h:jP a o o' E E'):(a,o')∈E' :=by
 induction h with
 | here=>exact .head _
 | there _ ih=>exact .tail _ ih
noncomputable def HN(o:ba)(k:Nat)(U:AH)(Q:Value->AH->Prop):Prop:=∃P E,HS P U E/\k<=1000000/\∀a U',HS P U' ((a,o)::E)->Q (.ref a) U'
theorem Jw{Q:Value->AH->Prop}(H:HS P U E)(hk:k<=1000000)(h:∀a U',HS P U' ((a,o)::E)->Q (.ref a) U'):HN o k U Q:=⟨_,_,H,hk,h⟩
theorem Hn{Q:Value->AH->Prop}(h:WL C F n es m U λ vs U1=>HN (.list vs) vs.length U1 Q):WE C F n (.List es pos) m U Q:=
 It λ O Z s pos W R K=>h O Z s pos _ R λ vs s' U' R' Uv=>by refine gJ Uv λ V V H hz q=>?_;clear Uv;exact K _ _ _ R' ⟨ac hz (af _ _),λ a ha=>q a _ (H.fresh ha)⟩
theorem pB{Q:Value->AH->Prop}(h:WL C F n es m U λ vs U1=>HN (.tup vs) vs.length U1 Q):WE C F n (.Tuple es k pos) m U Q:=
 sA λ O Z s pos W R K=>h O Z s pos _ R λ vs s' U' R' Uy=>by refine gJ Uy λ V V H hz q=>?_;clear Uy;exact K _ _ _ R' ⟨ac hz (af _ _),λ a ha=>q a _ (H.fresh ha)⟩
noncomputable def HL(a:Addr)(l u c:Option Int)(U:AH)(Q:Value->AH->Prop):Prop:=c≠some 0/\∃xs,U.rd a=some (.list xs)/\xs.length<=10000000/\∃P E,HS P U E/\∀D U',HS P U' ((D,.list (lL xs l u c))::E)->Q (.ref D) U'
theorem MA{lo hi st:Option Expr}{Q:Value->AH->Prop}(hs:AL (.Slice lo hi st p))
  (h:WE C F n value m U λ o U1=>XR o λ a=>WP C F n lo m U1 λ l Uq=>WP C F n hi m Uq λ u Ux=>WP C F n st m Ux λ c U4=>HL a l u c U4 Q):WE C F n (.Subscript value (.Slice lo hi st p) pos) m U Q:=by
 have mon:∀{x:Option Expr} {U:AH} {P P' :Option Int->AH->Prop},WP C F n x m U P->(∀v U,P v U->P' v U)->WP C F n x m U P' :=λ{x U P P'} h k=>by
  cases x with
  | none=>exact k _ _ h
  | some x=>
   have h' :WE C F n x m U λ v U' =>∃i,v=vi i/\P (some i) U' :=h
   exact ((h'.mono λ v U' UB=>by refine aH UB λ i e q=>?_;clear UB;exact bY i e (k _ _ q)):WE C F n x m U λ v U' =>∃i,v=vi i/\P' (some i) U')
 exact OH hs (h.mono λ o U1 UC=>by refine aH UC λ a e Ut=>?_;clear UC;exact bY a e (mon Ut λ l Uq UL=>mon UL λ u Ux h₃=>mon h₃ λ c U4 UF=>by refine aP UF λ h0 UQ=>?_;clear UF;obtain ⟨xs,hr,hz,P,E,H,q⟩:=UQ;exact ⟨h0,xs,hr,hz,λ D hD=>q D _ (H.fresh hD)⟩))
theorem LR{Q:Value->AH->Prop}(H:HS P U E)(ha:(a,.list xs)∈E)(hz:xs.length<=1000000)(h:∀D U',HS P U' ((D,.tup xs)::E)->Q (.ref D) U'):WB C F n (.type "tuple") [.ref a] m U (qe Q):=
 tD (H.lst ha) (ac hz (af _ _)) λ D hD=>h D _ (H.fresh hD)
theorem Eh{Q:Value->AH->Prop}(H:HS P U E)(ha:(a,.list xs)∈E)(hz:xs.length<=1000000)(h:∀D U',HS P U' ((D,.list xs)::E)->Q (.ref D) U'):WB C F n (.type "list") [.ref a] m U (qe Q):=
 vZ (.inl (H.lst ha)) (ac hz (af _ _)) λ D hD=>h D _ (H.fresh hD)
noncomputable def AH.drop(U:AH)(a:Addr):AH:=U.filter λ p=>p.1 !=a
theorem AH.get_drop(a c:Addr):∀U:AH,(AH.drop U a).get c=if c=a then none else U.get c
 | []=>by unfold AH.drop AH.get;simp
 | (b,o)::r=>by
  have ih:=AH.get_drop a c r
  unfold AH.drop AH.get at ih⊢
  refine ah cO (ah bv ?_)
  by_cases hb:b=a
  ·subst hb
   simp only [bne_self_eq_false,aV,if_false]
   refine ae ih ?_
   by_cases hc:c=b
   ·exact ae (if_pos hc) (ah (if_pos hc) rfl)
   ·exact ae (if_neg hc) (ah (if_neg hc) (ah (beq_false_of_ne hc) rfl))
  ·have:(b !=a)=true:=by simpa using hb
   refine ah this (ah (if_pos rfl) (ae bv ?_))
   by_cases hc:c=b
   ·(try clear this);subst hc
    exact ah (if_neg hb) (ah (beq_self_eq_true ..) rfl)
   ·exact ah (beq_false_of_ne hc) ih
theorem HS.dropA(H:HS P U ((a,o)::E)):HS P (AH.drop U a) E:=by
 have hnd:=H.nd
 have hne:∀p∈E,p.1≠a:=λ p hp e=>(aY.mp hnd).1 (aF.mpr ⟨p,hp,e⟩)
 cases P with
 | none=>exact ⟨λ p hp=>ae (AH.get_drop ..) (ae (if_neg (hne p hp)) (Fl.xt H p (.tail _ hp))),(aY.mp hnd).2⟩
 | some q=>
  have T:St q.1 q.2.1 q.2.2 U ((a,o)::E):=H
  have Vl:=(T.xt _ (.head _)).1
  exact ⟨T.self,T.inv.ext λ t ht=>ae (AH.get_drop ..) (ah (if_neg (Vl t ht)) rfl),T.fit,λ p hp=>⟨(T.xt p (.tail _ hp)).1,ae (AH.get_drop ..) (ae (if_neg (hne p hp)) ((T.xt p (.tail _ hp)).2))⟩,(aY.mp hnd).2⟩
noncomputable def AN(C:Cx)(F:dD)(n:Nat)(UI:Expr)(ifs:List Expr)(m:Str->Option Value)(U:AH)(K1:Value->AH->Prop)(K0:AH->Prop):Prop:=
 rf C F n ifs m U λ ok Uq=>if ok then WE C F n UI m Uq K1 else K0 Uq
theorem Cj{K1:Value->AH->Prop}{K0:AH->Prop}(h:WE C F n UI m U K1):AN C F n UI [] m U K1 K0:=((ah (if_pos rfl) h):(if true=true then WE C F n UI m U K1 else K0 U))
theorem F0{K1:Value->AH->Prop}{K0:AH->Prop}(h:WT C F n c m U λ b U1=>if b then WE C F n UI m U1 K1 else K0 U1):AN C F n UI [c] m U K1 K0:=by
 refine WT.mono h λ b U1 q=>?_
 cases b with
 | true=>exact ((ah (if_pos rfl) q):(if true=true then WE C F n UI m U1 K1 else K0 U1))
 | false=>exact q
noncomputable def XD(C:Cx)(F:dD)(n:Nat)(UI:Expr)(t:Str)(ifs:List Expr)(sc:Scope)(m:Str->Option Value)(x:Value)(U1:AH)(Q:Value->AH->Prop):Prop:=
 ∃(a:Addr) (ao:ba) (xs:List Value) (J:Nat->List Value->AH->Prop),x=.ref a/\fy ao=some xs/\xs.length<=1000000/\J 0 [] U1/\(∀i ys U,J i ys U->U.sees a ao)/\
   (∀L2 mL i v ys U',xs[i]? =some v->J i ys U' ->AN C (Fc F sc L2 mL) n UI ifs (fA (jz sc m) t v) U' (λ r U=>J (i+1) (ys++[r]) U) (λ U=>J (i+1) ys U))/\
   ∀ys U' b,J xs.length ys U' ->U'.get b=none->Q (.ref b) (U'.put b (.list ys))
theorem nJ(ht:(sc.names.lookup t==some .free)=false):∀z w,jz sc m z=some w->fA (jz sc m) t v z=some w:=λ z w h=>by
 unfold fA
 refine eC (λ e=>?_) λ V=>?_
 ·subst e;unfold jz at h;rewrite [if_neg (by intro q;replace ht:=q▸ht;exact (v8 ht).elim)] at h;exact (bH h).elim
 ·exact h
theorem rf.mono:∀(ifs:List Expr) {m:Str->Option Value} {U:AH} {P P' :Bool->AH->Prop},rf C F n ifs m U P->(∀b U,P b U->P' b U)->rf C F n ifs m U P'
 | [],_,_,_,_,h,k=>k _ _ h
 | c::r,_,_,_,_,h,k=>WT.mono h λ b U q=>by cases b with
  | true=>exact rf.mono r q k
  | false=>exact k _ _ q
theorem XD.lcx{Q:Value->AH->Prop}(ht:(sc.names.lookup t==some .free)=false)(Yy:∀L2 mL,Stores (Fc F sc L2 mL) t)(h:XD C F n UI t ifs sc m x U1 Q):
  Pt C F n UI ⟨.Name t tp,it,ifs,0⟩ [] sc x m U1 λ ys U' =>∀b,U'.get b=none->Q (.ref b) (U'.put b (.list ys)):=by
 refine Ez h λ a ao xs J e hi hz h0 WJ ht' Vu=>?_;clear h
 refine .inl ⟨a,ao,xs,e,hi,WJ _ _ _ h0,λ L2 mL=>(oa (λ i ys U=>J i ys U/\ys.length<=i) ⟨h0,a0 _⟩ (λ i ys U h=>WJ _ _ _ h.1) (λ i v ys Uq hv UO=>?_) (λ ys U' UP b hb=>by refine aP UP λ hJ hl=>?_;clear UP;exact Vu ys U' b hJ hb))⟩
 refine aP UO λ hJ hl=>?_;clear UO
 refine gg (Yy L2 mL) ⟨nJ ht,?_⟩
 have:=ht' L2 mL i v ys Uq hv hJ
 unfold AN at this
 refine rf.mono _ this λ ok Ux q=>?_
 cases ok with
 | true=>
  have q' :WE C (Fc F sc L2 mL) n UI (fA (jz sc m) t v) Ux λ r U=>J (i+1) (ys++[r]) U:=q
  refine ⟨?_,?_⟩
  ·have:=(al.mp hv).1;exact aG (ai (au hl this) (ac hz (af _ _)))
  ·exact WE.mono q' λ r U4 hr=>⟨hr,ah aA (ah aW (bA hl _))⟩
 | false=>exact ⟨q,ac hl (ax _ _)⟩
theorem pX{P:Bool->AH->Prop}(h:P true U):rf C F n [] m U P:=h
theorem Ei{Q:Value->AH->Prop}(Sc:pV F sc)(hs:∀x,da it F.env x=eu x)(ht:(sc.names.lookup t==some .free)=false)(Yy:∀L2 mL,Stores (Fc F sc L2 mL) t)
  (h:WE C F n it m U λ x U1=>XD C F n UI t ifs sc m x U1 Q):WE C F n (.ListComp UI [⟨.Name t tp,it,ifs,0⟩] sc pos) m U Q:=
 FI Sc hs (h.mono λ x U1 h=>h.lcx ht Yy)
theorem Iz{Q:ig->(Str->Option Value)->AH->Prop}
  (We:iE (.ListComp UI [⟨.Name t tp,it,ifs,0⟩] sc pos') (some (.Name x p')) pos.line F.env=eu true) (Sx:Stores F x) (Sc:pV F sc) (hs:∀x,da it F.env x=eu x) (ht:(sc.names.lookup t==some .free)=false) (Yy:∀L2 mL,Stores (Fc F sc L2 mL) t)
  (h:WE C F n it m U λ y U1=>XD C F n UI t ifs sc m y U1 λ v U' =>Q .next (fA m x v) U'):W1 C F n (.Assign [.Name x p'] (.ListComp UI [⟨.Name t tp,it,ifs,0⟩] sc pos') pos) m U Q:=
 xj We Sx Sc hs (h.mono λ y U1 h=>h.lcx ht Yy)
end
end
section
noncomputable def SS.sKnown(S:SS)(x:List (Int×Bool)):SS:={S with known:=x}
noncomputable def SS.sHeights(S:SS)(x:List (Int×Nat)):SS:={S with heights:=x}
noncomputable def SS.sCauses(S:SS)(x:List (Int×Option Nat)):SS:={S with causes:=x}
noncomputable def SS.sRow(S:SS)(x:List Int):SS:={S with row:=x}
noncomputable def SS.sBegins(S:SS)(x:List Nat):SS:={S with begins:=x}
noncomputable def SS.sSeen(S:SS)(x:Nat):SS:={S with seen:=x}
noncomputable def SS.sLiked(S:SS)(x:List (Int×Bool)):SS:={S with liked:=x}
noncomputable def SS.sRows(S:SS)(x:List (List Int)):SS:={S with rows:=x}
noncomputable def SS.sWatch(S:SS)(x:List (Int×List Nat)):SS:={S with watch:=x}
noncomputable def SS.sHeats(S:SS)(x:List (Int×Int)):SS:={S with heats:=x}
noncomputable def SS.sGain(S:SS)(x:Int):SS:={S with gain:=x}
noncomputable def SS.sLog(S:SS)(x:List (List Int)):SS:={S with log:=x}
noncomputable def SS.sRefuted(S:SS)(x:Bool):SS:={S with refuted:=x}
noncomputable def SS.sBlamed(S:SS)(x:List Int):SS:={S with blamed:=x}
noncomputable def SS.sClashes(S:SS)(x:Nat):SS:={S with clashes:=x}
noncomputable def SS.sLimit(S:SS)(x:Int):SS:={S with limit:=x}
noncomputable def SS.sLock(S:SS)(x:Option Obj):SS:={S with lock:=x}
inductive xD(c:Bool)(A B:Prop):Prop where
 | mk (t:c=true->A) (f:c=false->B)
noncomputable def Gd(b:Bool)(P:Prop):Prop:=match b with
 | true=>P
 | false=>False
theorem Gd.of(h:Gd b P):b=true/\P:=by
 cases b with
 | true=>exact ⟨rfl,h⟩
 | false=>exact h.elim
noncomputable def Els(b:Bool)(P Q:Prop):Prop:=match b with
 | true=>P
 | false=>Q
structure Gx where
 X:Sx
 n:Nat
 me:Addr
 nm:List (Str×eH)
noncomputable def Gx.sub(G:Gx)(n:Nat)(nm:List (Str×eH)):Gx:=⟨G.X,n,G.me,nm⟩
inductive Zs where
 | no (E:List (Addr×ba))
 | s (A:Ad) (S:SS) (E:List (Addr×ba))
noncomputable def Zs.ok(G:Gx)(z:Zs)(U:AH):Prop:=match z with
 | .no E=>Fl U E
 | .s A S E=>St G.me A S U E
noncomputable def Zs.new(z:Zs)(a:Addr)(o:ba):Zs:=match z with
 | .no E=> .no ((a,o)::E)
 | .s A S E=> .s A S ((a,o)::E)
noncomputable def Zs.E:Zs->List (Addr×ba)
 | .no E=>E
 | .s _ _ E=>E
inductive LU(G:Gx)(z:Zs):Prop where
 | mk (U:AH) (ok:z.ok G U)
inductive MV where
 | v (x:Value)
 | me
noncomputable abbrev eY:=List (Str×MV)
noncomputable def MV.val(me:Addr):MV->Value
 | .v x=>x
 | .me=> .ref me
noncomputable def MV.isMe:MV->Bool
 | .v _=>false
 | .me=>true
noncomputable def dA(me:Addr)(m:eY):Str->Option Value:=λ x=>(m.lookup x).map (MV.val me)
noncomputable def put(m:eY)(x:Str)(v:Value):eY:=(x,.v v)::m
inductive Pz(G:Gx)(Q:Zs->Prop)(U:AH):Prop where
 | mk (z:Zs) (ok:z.ok G U) (q:Q z)
inductive Pm(G:Gx)(Q:eY->Zs->Prop)(m' :Str->Option Value)(U:AH):Prop where
 | mk (m:eY) (z:Zs) (e:dA G.me m=m') (ok:z.ok G U) (q:Q m z)
structure GF(G:Gx)(F:dD):Prop where
 kind:∀x k,G.nm.lookup x=some k->k≠ .free->F.env.kindOf x=some k
 free:∀x,G.nm.lookup x=some .free->F.env.kindOf x=some .cell\/F.env.kindOf x=some .free
 blk:F.env.blockKind=.function
 inter:II F.env=false
noncomputable abbrev VQ:=Value->Zs->Prop
noncomputable abbrev SQ:=ig->eY->Zs->Prop
noncomputable def Rj:ig->ig
 | .ret v=> .ret (er v)
 | f=>f
noncomputable abbrev pv(G:Gx){α:Type}(Q:α->Zs->Prop):α->AH->Prop:=λ v U' =>Pz G (Q v) U'
noncomputable abbrev vI(G:Gx)(Q:SQ):ig->(Str->Option Value)->AH->Prop:=λ f m' U' =>Pm G (Q (Rj f)) m' U'
section
variable(G:Gx)
structure m_(f:Value->Value->Sem Value)(a b:Value)(z:Zs)(Q:VQ):Prop where
 run:∀F m U,z.ok G U->ji (CX G.X) F G.n f a b m U (qe (pv G Q))
structure FY(o i:Value)(z:Zs)(Q:VQ):Prop where
 run:∀F m U,z.ok G U->WG (CX G.X) F G.n o i m U (pv G Q)
structure FX(o i v:Value)(z:Zs)(Q:Zs->Prop):Prop where
 run:∀F m U,z.ok G U->WI (CX G.X) F G.n o i v m U (Pz G Q)
structure nX(f:Value)(vs:List Value)(z:Zs)(Q:VQ):Prop where
 run:∀F m U,z.ok G U->WB (CX G.X) F G.n f vs m U (qe (pv G Q))
structure Pq(f:Value)(vs:List Value)(ns:List Str)(ks:List Value)(z:Zs)(Q:VQ):Prop where
 run:∀F m U,z.ok G U->Ju (CX G.X) F G.n f vs ns ks m U (qe (pv G Q))
structure la(f:Addr)(vs:List Value)(z:Zs)(Q:VQ):Prop where
 run:∀U,z.ok G U->WC (CX G.X) G.n f vs U (pv G Q)
structure ON(attr:Str)(v:Value)(A:Ad)(S:SS)(E:List (Addr×ba))(Q:Zs->Prop):Prop where
 run:∀U,St G.me A S U E->NS attr v A S U (Pz G Q)
structure Sq(a:Addr)(l u c:Option Int)(z:Zs)(Q:VQ):Prop where
 run:∀U,z.ok G U->HL a l u c U (pv G Q)
structure IsL(v:Value)(z:Zs):Prop where
 run:∀U,z.ok G U->∃a xs,v=.ref a/\U.rd a=some (.list xs)
structure Ry(v:Value)(z:Zs):Prop where
 run:∀U,z.ok G U->∃a xs,v=.ref a/\U.rd a=some (.dict xs)
structure iQ(e:Expr)(m:eY)(z:Zs)(Q:VQ):Prop where
 run:∀F U,GF G F->z.ok G U->WE (CX G.X) F G.n e (dA G.me m) U (pv G Q)
structure l6(b:Stmt)(m:eY)(z:Zs)(Q:SQ):Prop where
 run:∀F U,GF G F->z.ok G U->W1 (CX G.X) F G.n b (dA G.me m) U (vI G Q)
noncomputable def jy(a:Value)(K:Int->Prop):Prop:=match a with
 | .int i _=>K i
 | _=>False
noncomputable def l4(a:Value)(K:Int->Prop):Prop:=match a with
 | .int i 0=>K i
 | _=>False
noncomputable def tR(a:Value)(K:Nat->Prop):Prop:=match a with
 | .int (.ofNat i) 0=>K i
 | _=>False
noncomputable def pz(a:Value)(K:Bool->Prop):Prop:=match a with
 | .bool i=>K i
 | _=>False
noncomputable def Hd(a:Value)(K:Addr->Prop):Prop:=match a with
 | .ref i=>K i
 | _=>False
noncomputable def qm(a:Value)(K:Int->Prop)(L:Prop):Prop:=match a with
 | .int i _=>K i
 | _=>L
noncomputable def DN(op:RS)(a b:Value)(z:Zs)(Q:VQ):Prop:=match op with
 | .Add=>qm a (λ i=>jy b λ j=>Q (vi (i+j)) z) (m_ G (fB .Add) a b z Q)
 | .Sub=>jy a λ i=>jy b λ j=>Q (vi (i-j)) z
 | op=>m_ G (fB op) a b z Q
noncomputable def Se(op:UnaryOp)(a:Value)(z:Zs)(Q:VQ):Prop:=match op with
 | .USub=>jy a λ i=>Q (vi (-i)) z
 | .Not=>pz a λ b=>Q (.bool (!b)) z
 | _=>False
noncomputable def J'(op:CU)(a b:Value)(z:Zs)(Q:VQ):Prop:=match op with
 | .Lt=>jy a λ i=>jy b λ j=>Q (.bool (decide (i<j))) z
 | .LtE=>jy a λ i=>jy b λ j=>Q (.bool (decide (i<=j))) z
 | .Gt=>qm a (λ i=>jy b λ j=>Q (.bool (decide (i>j))) z) (m_ G (bm .Gt) a b z Q)
 | .GtE=>jy a λ i=>jy b λ j=>Q (.bool (decide (i>=j))) z
 | .NotEq=>qm b (λ j=>jy a λ i=>Q (.bool (decide (i≠j))) z) (m_ G (bm .NotEq) a b z Q)
 | .Eq=>qm b (λ j=>jy a λ i=>Q (.bool (decide (i=j))) z) (m_ G (bm .Eq) a b z Q)
 | op=>m_ G (bm op) a b z Q
noncomputable def Ho(vs:List Value)(K:Value->Prop):Prop:=match vs with
 | [v]=>K v
 | _=>False
noncomputable def Sf(f:Value)(vs:List Value)(z:Zs)(Q:VQ):Prop:=Els (f==.builtin "abs") (Ho vs λ v=>jy v λ i=>Q (vi i.natAbs) z) (nX G f vs z Q)
end
structure Wf where
 e:Expr->eY->Zs->VQ->Prop
 t:Expr->eY->Zs->(Bool->Zs->Prop)->Prop
 a:BoolOp->List Expr->eY->Zs->(Bool->Zs->Prop)->Prop
 l:List Expr->eY->Zs->(List Value->Zs->Prop)->Prop
 s:List Stmt->eY->Zs->SQ->Prop
noncomputable def Ja:List (Str×Int):=[("FIRST_SPAN",16),("MOST_HEAT",1000000000)]
noncomputable def iL(e:Expr):Bool:=e.ctorIdx !=22
noncomputable def qi(e:Expr):Bool:=e.ctorIdx !=7
noncomputable def uu(e:Expr):Bool:=match e with
 | .Call _ args _ _=> !args.isEmpty
 | _=>true
noncomputable def pj(e:Expr):Bool:=!(e.ctorIdx==8 || e.ctorIdx==9 || e.ctorIdx==10)
noncomputable def Mf(e:Expr):Bool:=e.ctorIdx==23 || e.ctorIdx==19 || e.ctorIdx==2 || e.ctorIdx==21 || e.ctorIdx==16 || e.ctorIdx==3 || e.ctorIdx==20
noncomputable def JM(e:Expr):Bool:=e.ctorIdx==23 || e.ctorIdx==16 || e.ctorIdx==20 || e.ctorIdx==19
noncomputable def lZ(e:Expr):Option (Str×Pos):=match e with
 | .Name x p=>some (x,p)
 | _=>none
noncomputable def Qi(G:Gx)(x:Str)(m:eY):Bool:=(m.lookup x).isNone&&G.nm.lookup x==some .globalImplicit
noncomputable def gC{α:Type}(o:Option α)(K:α->Prop)(L:Prop):Prop:=match o with
 | some x=>K x
 | none=>L
noncomputable def Dg(G:Gx)(x:Str)(m:eY)(z:Zs)(Q:VQ):Prop:=
 gC (m.lookup x) (λ v=>Q (v.val G.me) z) (Gd (G.nm.lookup x==some .globalImplicit) (gC (Ja.lookup x) (λ i=>Q (vi i) z) (gC (HU.lookup x) (λ v=>Q v z) False)))
noncomputable def zJ(c:Const)(z:Zs)(Q:VQ):Prop:=match c with
 | .int i=>Q (vi i) z
 | .str s=>Q (.str s 0) z
 | .bool b=>Q (.bool b) z
 | .none=>Q .none z
 | _=>False
noncomputable def isMe(o:Expr)(m:eY):Bool:=match lZ o with
 | some (x,_)=>(match m.lookup x with
  | some w=>w.isMe
  | none=>false)
 | none=>false
noncomputable def kS(z:Zs)(K:Ad->SS->List (Addr×ba)->Prop):Prop:=match z with
 | .s A S E=>K A S E
 | .no _=>False
noncomputable def Dl(G:Gx)(o:Expr)(attr:Str)(pos:Pos)(m:eY)(z:Zs)(Q:VQ):Prop:=
 Gd (isMe o m) (kS z λ A S E=>Els (sx.contains attr) (gC (nsLook attr (fields A S)) (λ v=>Q v z) False) (iQ G (.Attribute o attr pos) m z Q))
noncomputable def SY(Q:Option Int->Zs->Prop):VQ:=λ v z=>l4 v λ i=>Q (some i) z
noncomputable def G0(w:Wf)(e:Option Expr)(m:eY)(z:Zs)(Q:Option Int->Zs->Prop):Prop:=match e with
 | none=>Q none z
 | some e=>w.e e m z (SY Q)
noncomputable def yA:List (Str×String):=[("append","list.append"),("extend","list.extend")]
noncomputable def yO:List (Str×String):=[("get","dict.get"),("setdefault","dict.setdefault"),("update","dict.update")]
noncomputable def kB(G:Gx)(f:String)(ov:Value)(Q:VQ):List Value->Zs->Prop:=λ vs z=>nX G (.builtin f) (ov::vs) z Q
noncomputable def P3(w:Wf)(G:Gx)(f:String)(args:List Expr)(m:eY)(Q:VQ):VQ:=λ ov z=>IsL G ov z/\w.l args m z (kB G f ov Q)
noncomputable def Qc(w:Wf)(G:Gx)(f:String)(args:List Expr)(m:eY)(Q:VQ):VQ:=λ ov z=>Ry G ov z/\w.l args m z (kB G f ov Q)
noncomputable def Dh(w:Wf)(G:Gx)(o:Expr)(name:Str)(args:List Expr)(m:eY)(z:Zs)(Q:VQ):Prop:=
 gC (yA.lookup name) (λ f=>w.e o m z (P3 w G f args m Q)) (gC (yO.lookup name) (λ f=>w.e o m z (Qc w G f args m Q))
  (Gd (name==("pop":Str)) (Els args.isEmpty (w.e o m z (P3 w G "list.pop" args m Q)) (w.e o m z (Qc w G "dict.pop" args m Q)))))
noncomputable def oJ(US pos:Pos)(o:Expr)(args:List Expr):Bool:=(US.endLine==pos.line)&&decide (args.length<20)&&args.all iL&&uu o
noncomputable def kC(G:Gx)(f:Addr)(pre:List Value)(Q:VQ):List Value->Zs->Prop:=λ vs z=>la G f (pre++vs) z Q
noncomputable def Td(G:Gx)(f:Value)(Q:VQ):List Value->Zs->Prop:=λ vs z=>Sf G f vs z Q
noncomputable def S_(w:Wf)(G:Gx)(f:Value)(n1:Str)(v1:Expr)(m:eY)(Q:VQ):List Value->Zs->Prop:=λ vs z=>w.e v1 m z λ k1 z=>Pq G f vs [n1] [k1] z Q
noncomputable def S9(w:Wf)(G:Gx)(f:Value)(n1 n2:Str)(v1 v2:Expr)(m:eY)(Q:VQ):List Value->Zs->Prop:=λ vs z=>w.e v1 m z λ k1 z=>w.e v2 m z λ k2 z=>Pq G f vs [n1,n2] [k1,k2] z Q
noncomputable def Hh:Value->Bool
 | .builtin _=>true
 | _=>false
noncomputable def Mi(w:Wf)(G:Gx)(x:Str)(args:List Expr)(Vv:List Gl)(m:eY)(z:Zs)(Q:VQ)(L:Prop):Prop:=match Vv with
 | []=>gC (Em.lookup x) (λ f=>w.l args m z (kC G f [] Q)) (gC (HU.lookup x) (λ f=>w.l args m z (Td G f Q)) L)
 | [⟨some n1,v1,_⟩]=>gC (HU.lookup x) (λ f=>Gd (Hh f&& !args.isEmpty) (w.l args m z (S_ w G f n1 v1 m Q))) L
 | [⟨some n1,v1,_⟩,⟨some n2,v2,_⟩]=>gC (HU.lookup x) (λ f=>Gd (Hh f&& !args.isEmpty) (w.l args m z (S9 w G f n1 n2 v1 v2 m Q))) L
 | _=>False
noncomputable def Dj(w:Wf)(G:Gx)(f:Expr)(args:List Expr)(Vv:List Gl)(pos:Pos)(m:eY)(z:Zs)(Q:VQ)(L:Prop):Prop:=match f with
 | .Attribute o name US=>Els (oJ US pos o args&&Vv.isEmpty)
   (Els (isMe o m) (kS z λ V V V=>gC (uz.lookup name) (λ f=>w.l args m z (kC G f [.ref G.me] Q)) False) (Dh w G o name args m z Q)) L
 | .Name x p=>Gd (args.all iL&&Qi G x m) (Mi w G x args Vv m z Q L)
 | _=>L
noncomputable def jm(G:Gx)(z z' :Zs):Prop:=∀U,z.ok G U->z'.ok G U
noncomputable def sW(me:Addr)(m m' :eY):Prop:=m'.map (λ p=>(m.lookup p.1).map (MV.val me))=m'.map (λ p=>some (p.2.val me))
noncomputable def om(sc:Scope)(m:eY):eY:=m.filter λ p=>sc.names.lookup p.1==some .free
noncomputable def rK(G:Gx)(sc:Scope)(t:Str):Bool:=sc.kind==.function&&decide (sc.names.map (·.1)).Nodup&&sc.names.all (λ x=>x.1 !=("__class__":Str)&&(x.2 !=.free || G.nm.lookup x.1==some .cell || G.nm.lookup x.1==some .free))&&
 (t !=("__debug__":Str)&&t !=("__classdict__":Str)&&(sc.names.lookup t==some .local || sc.names.lookup t==some .cell))
inductive Pr{ι:Type}(G:Gx)(J:ι->Prop)(zf:ι->Zs)(z:Zs):Prop where
 | mk (j:ι) (h:J j) (hz:jm G z (zf j))
inductive Rv{ι:Type}(G:Gx)(J:ι->Prop)(mf:ι->eY)(zf:ι->Zs)(m:eY)(z:Zs):Prop where
 | mk (j:ι) (h:J j) (hm:sW G.me m (mf j)) (hz:jm G z (zf j))
noncomputable def P7(w:Wf)(UI:Expr)(m:eY)(K1:VQ)(K0:Zs->Prop):Bool->Zs->Prop:=λ b z=>xD b (w.e UI m z K1) (K0 z)
noncomputable def PM(w:Wf)(UI:Expr)(ifs:List Expr)(m:eY)(z:Zs)(K1:VQ)(K0:Zs->Prop):Prop:=match ifs with
 | []=>w.e UI m z K1
 | [c]=>w.t c m z (P7 w UI m K1 K0)
 | _=>False
inductive F1(w:Gx->Wf)(G:Gx)(UI:Expr)(t:Str)(ifs:List Expr)(sc:Scope)(m:eY)(Q:VQ)(x:Value)(z:Zs):Prop where
 | mk (a:Addr) (ao:ba) (xs:List Value) (ι:Type) (zf:ι->Zs) (J:Nat->List Value->ι->Prop) (i0:ι) (hx:x=.ref a) (hi:fy ao=some xs) (hz:xs.length<=1000000) (h0:J 0 [] i0) (hs:jm G z (zf i0))
   (Xf:∀i ys j U,J i ys j->(zf j).ok G U->U.sees a ao)
   (turn:∀i ys j v,xs[i]? =some v->J i ys j->(LU G (zf j))->PM (w (G.sub G.n sc.names)) UI ifs (put (om sc m) t v) (zf j) (λ r=>Pr G (J (i+1) (ys++[r])) zf) (Pr G (J (i+1) ys) zf))
   (fin:∀ys j,J xs.length ys j->(LU G (zf j))->∀b,Q (.ref b) ((zf j).new b (.list ys)))
noncomputable def xZ(w:Gx->Wf)(G:Gx)(UI:Expr)(gens:List ce)(sc:Scope)(m:eY)(z:Zs)(Q:VQ)(L:Prop):Prop:=match gens with
 | [⟨t,it,ifs,_⟩]=>gC (lZ t) (λ t=>Gd (rK G sc t.1&&qi it) ((w G).e it m z (F1 w G UI t.1 ifs sc m Q))) L
 | _=>L
noncomputable def Qb(G:Gx)(z:Zs)(J:List (Int×Value)->Prop)(ys:List (Int×Value))(i:Int):VQ:=λ vv z' =>jm G z' z/\J (dM ys i vv)
noncomputable def Kk(w:Wf)(G:Gx)(v:Expr)(m:eY)(z:Zs)(J:List (Int×Value)->Prop)(ys:List (Int×Value)):VQ:=λ kv z' =>l4 kv λ i=>w.e v m z' (Qb G z J ys i)
inductive Pv(w:Gx->Wf)(G:Gx)(k v:Expr)(t:Str)(sc:Scope)(m:eY)(Q:VQ)(x:Value)(z:Zs):Prop where
 | mk (a:Addr) (ao:ba) (xs:List Value) (J:Nat->List (Int×Value)->Prop) (hx:x=.ref a) (hi:fy ao=some xs) (hz:xs.length<=1000000) (h0:J 0 []) (Xf:∀U,z.ok G U->U.sees a ao)
   (turn:∀i ys u,xs[i]? =some u->J i ys->(w (G.sub G.n sc.names)).e k (put (om sc m) t u) z (Kk (w (G.sub G.n sc.names)) G v (put (om sc m) t u) z (J (i+1)) ys))
   (fin:∀ys,J xs.length ys->∀b,Q (.ref b) (z.new b (.dict ys)))
 | heats (A:Ad) (S:SS) (E:List (Addr×ba)) (J:Nat->List (Int×Value)->Prop) (ez:z=.s A S E) (hx:x=.ref (A .heats)) (hl:S.lock=none) (h0:J 0 [])
   (turn:∀o i ys u,(S.heats.map (·.1))[i]? =some u->J i ys->(w (G.sub G.n sc.names)).e k (put (om sc m) t (vi u)) (.s A (S.sLock (some o)) E) (Kk (w (G.sub G.n sc.names)) G v (put (om sc m) t (vi u)) (.s A (S.sLock (some o)) E) (J (i+1)) ys))
   (fin:∀ys,J S.heats.length ys->∀b,Q (.ref b) (z.new b (.dict ys)))
noncomputable def PP(w:Gx->Wf)(G:Gx)(k v:Expr)(gens:List ce)(sc:Scope)(m:eY)(z:Zs)(Q:VQ)(L:Prop):Prop:=match gens with
 | [⟨t,it,ifs,_⟩]=>gC (lZ t) (λ t=>Gd (rK G sc t.1&&(qi it&&ifs.isEmpty)) ((w G).e it m z (Pv w G k v t.1 sc m Q))) L
 | _=>L
noncomputable def Pe(gens:List ce):Bool:=gens.all λ g=>g.is_async==0
noncomputable def Ae(G:Gx)(op:RS)(a:Value)(Q:VQ):VQ:=λ b z=>DN G op a b z Q
noncomputable def Mv(w:Wf)(G:Gx)(op:RS)(r:Expr)(m:eY)(Q:VQ):VQ:=λ a z=>w.e r m z (Ae G op a Q)
noncomputable def SX(op:UnaryOp)(Q:VQ):VQ:=λ a z=>Se op a z Q
noncomputable def I8(G:Gx)(op:CU)(a:Value)(Q:VQ):VQ:=λ b z=>J' G op a b z Q
noncomputable def I9(w:Wf)(G:Gx)(op:CU)(r:Expr)(m:eY)(Q:VQ):VQ:=λ a z=>w.e r m z (I8 G op a Q)
noncomputable def Mj(w:Wf)(G:Gx)(l:Expr)(VC:List CU)(rs:List Expr)(m:eY)(z:Zs)(Q:VQ):Prop:=match VC,rs with
 | [op],[r]=>Gd (!iX op r) (w.e l m z (I9 w G op r m Q))
 | _,_=>False
noncomputable def Tc(w:Wf)(b o:Expr)(m:eY)(Q:VQ):Bool->Zs->Prop:=λ c z=>xD c (w.e b m z Q) (w.e o m z Q)
noncomputable def Mt(G:Gx)(o:Value)(Q:VQ):VQ:=λ i z=>FY G o i z Q
noncomputable def I6(w:Wf)(G:Gx)(s:Expr)(m:eY)(Q:VQ):VQ:=λ o z=>w.e s m z (Mt G o Q)
noncomputable def PX(G:Gx)(a:Addr)(l u:Option Int)(Q:VQ):Option Int->Zs->Prop:=λ c z=>Sq G a l u c z Q
noncomputable def PY(w:Wf)(G:Gx)(st:Option Expr)(m:eY)(a:Addr)(l:Option Int)(Q:VQ):Option Int->Zs->Prop:=λ u z=>G0 w st m z (PX G a l u Q)
noncomputable def PZ(w:Wf)(G:Gx)(hi st:Option Expr)(m:eY)(a:Addr)(Q:VQ):Option Int->Zs->Prop:=λ l z=>G0 w hi m z (PY w G st m a l Q)
noncomputable def P0(w:Wf)(G:Gx)(lo hi st:Option Expr)(m:eY)(Q:VQ):VQ:=λ o z=>Hd o λ a=>G0 w lo m z (PZ w G hi st m a Q)
noncomputable def IZ(w:Wf)(G:Gx)(v s:Expr)(m:eY)(z:Zs)(Q:VQ):Prop:=match s with
 | .Slice lo hi st _=>w.e v m z (P0 w G lo hi st m Q)
 | s=>Gd (Mf s) (w.e v m z (I6 w G s m Q))
noncomputable def Ki(f:List Value->ba)(Q:VQ):List Value->Zs->Prop:=λ vs z=>vs.length<=1000000/\∀a,Q (.ref a) (z.new a (f vs))
structure Sr(G:Gx)(D:Addr)(i:Int)(v:Value)(z:Zs)(Q:VQ):Prop where
 run:∀U,z.ok G U->U.get D=some (.dict [])/\Pz G (Q (.ref D)) (U.put D (.dict [(i,v)]))
noncomputable def P_(G:Gx)(D:Addr)(i:Int)(Q:VQ):VQ:=λ v z=>Sr G D i v z Q
noncomputable def Qa(w:Wf)(G:Gx)(v:Expr)(m:eY)(D:Addr)(Q:VQ):VQ:=λ kv z=>l4 kv λ i=>w.e v m z (P_ G D i Q)
noncomputable def JY(w:Wf)(G:Gx)(ks:List (Option Expr))(vs:List Expr)(m:eY)(z:Zs)(Q:VQ)(L:Prop):Prop:=match ks,vs with
 | [],[]=>∀a,Q (.ref a) (z.new a (.dict []))
 | [some k],[v]=>∀D,w.e k m (z.new D (.dict [])) (Qa w G v m D Q)
 | _,_=>L
noncomputable def Sb(w:Gx->Wf)(G:Gx)(e:Expr)(m:eY)(z:Zs)(Q:VQ):Prop:=match e with
 | .Name x _=>Dg G x m z Q
 | .Constant c _ _=>zJ c z Q
 | .BinOp l op r _=>(w G).e l m z (Mv (w G) G op r m Q)
 | .UnaryOp op x _=>(w G).e x m z (SX op Q)
 | .Compare l VC rs _=>Mj (w G) G l VC rs m z Q
 | .IfExp t b o _=>(w G).t t m z (Tc (w G) b o m Q)
 | .Subscript v s _=>IZ (w G) G v s m z Q
 | .Attribute o attr pos=>Dl G o attr pos m z Q
 | .Call f args Vv pos=>Dj (w G) G f args Vv pos m z Q (iQ G (.Call f args Vv pos) m z Q)
 | .List es _=>(w G).l es m z (Ki .list Q)
 | .Tuple es _ _=>(w G).l es m z (Ki .tup Q)
 | .Dict ks vs pos=>JY (w G) G ks vs m z Q (iQ G (.Dict ks vs pos) m z Q)
 | .ListComp UI gens sc pos=>Gd (Pe gens) (xZ w G UI gens sc m z Q (iQ G (.ListComp UI gens sc pos) m z Q))
 | .DictComp k v gens sc pos=>Gd (Pe gens) (PP w G k v gens sc m z Q (iQ G (.DictComp k v gens sc pos) m z Q))
 | e=>iQ G e m z Q
noncomputable def P2(Q:Bool->Zs->Prop):Bool->Zs->Prop:=λ b z=>Q (!b) z
noncomputable def BH(Q:Bool->Zs->Prop):VQ:=λ v z=>pz v λ b=>Q b z
noncomputable def Qd(w:Wf)(G:Gx)(VW:CU)(r2:Expr)(m:eY)(b:Value)(Q:Bool->Zs->Prop):Bool->Zs->Prop:=λ t z=>xD t (w.e r2 m z (I8 G VW b (BH Q))) (Q false z)
noncomputable def Qe(w:Wf)(G:Gx)(Xg VW:CU)(r2:Expr)(m:eY)(a:Value)(Q:Bool->Zs->Prop):VQ:=λ b z=>J' G Xg a b z (BH (Qd w G VW r2 m b Q))
noncomputable def Qf(w:Wf)(G:Gx)(Xg VW:CU)(r1 r2:Expr)(m:eY)(Q:Bool->Zs->Prop):VQ:=λ a z=>w.e r1 m z (Qe w G Xg VW r2 m a Q)
noncomputable def Di(w:Wf)(G:Gx)(l:Expr)(VC:List CU)(rs:List Expr)(m:eY)(z:Zs)(Q:Bool->Zs->Prop):Prop:=match VC,rs with
 | [op],[r]=>Gd (!iX op r) (w.e l m z (I9 w G op r m (BH Q)))
 | [Xg,VW],[r1,r2]=>Gd (!iX VW r2) (w.e l m z (Qf w G Xg VW r1 r2 m Q))
 | _,_=>False
noncomputable def RZ(w:Wf)(G:Gx)(e:Expr)(m:eY)(z:Zs)(Q:Bool->Zs->Prop):Prop:=match e with
 | .BoolOp op es _=>w.a op es m z Q
 | .UnaryOp op x p=>Gd (op==.Not) (w.t x m z (P2 Q))
 | .Compare l VC rs _=>Di w G l VC rs m z Q
 | e=>Gd (JM e) (w.e e m z (BH Q))
noncomputable def Qg(w:Wf)(es:List Expr)(m:eY)(Q:Bool->Zs->Prop):Bool->Zs->Prop:=λ b z=>xD b (w.a .And es m z Q) (Q false z)
noncomputable def SZ(w:Wf)(es:List Expr)(m:eY)(Q:Bool->Zs->Prop):Bool->Zs->Prop:=λ b z=>xD b (Q true z) (w.a .Or es m z Q)
noncomputable def Dk(w:Wf)(op:BoolOp)(es:List Expr)(m:eY)(z:Zs)(Q:Bool->Zs->Prop):Prop:=match op,es with
 | .And,[]=>Q true z
 | .Or,[]=>Q false z
 | .And,e::es=>w.t e m z (Qg w es m Q)
 | .Or,e::es=>w.t e m z (SZ w es m Q)
noncomputable def S8(v:Value)(Q:List Value->Zs->Prop):List Value->Zs->Prop:=λ vs z=>Q (v::vs) z
noncomputable def kL(w:Wf)(es:List Expr)(m:eY)(Q:List Value->Zs->Prop):VQ:=λ v z=>w.l es m z (S8 v Q)
noncomputable def Sa(w:Wf)(es:List Expr)(m:eY)(z:Zs)(Q:List Value->Zs->Prop):Prop:=match es with
 | []=>Q [] z
 | e::es=>Gd (iL e) (w.e e m z (kL w es m Q))
noncomputable def fx(G:Gx)(x:Str):Bool:=x !=("__debug__":Str)&&x !=("__classdict__":Str)&&(G.nm.lookup x==some .local || (G.nm.lookup x==some .cell&&x !=("__class__":Str)))
noncomputable def fld(attr:Str)(v:Value)(S:SS)(K:SS->Prop)(L:Prop):Prop:=
 Els (attr==("seen":Str)) (tR v λ k=>K (S.sSeen k))<| Els (attr==("is_refuted":Str)) (pz v λ b=>K (S.sRefuted b))<| Els (attr==("clashes":Str)) (tR v λ k=>K (S.sClashes k))<|
  Els (attr==("gain":Str)) (l4 v λ k=>K (S.sGain k))<| Els (attr==("conflict_limit":Str)) (l4 v λ k=>K (S.sLimit k)) L
noncomputable def kN(m:eY)(Q:SQ):Zs->Prop:=λ z=>Q .next m z
noncomputable def P8(G:Gx)(attr:Str)(m:eY)(Q:SQ):VQ:=λ v z=>kS z λ A S E=>fld attr v S (λ S=>Q .next m (.s A S E)) (ON G attr v A S E (kN m Q))
noncomputable def P4(G:Gx)(ov v:Value)(Q:Zs->Prop):VQ:=λ iv z=>FX G ov iv v z Q
noncomputable def Mu(w:Wf)(G:Gx)(i:Expr)(v:Value)(m:eY)(Q:Zs->Prop):VQ:=λ ov z=>w.e i m z (P4 G ov v Q)
noncomputable def P5(w:Wf)(G:Gx)(o i:Expr)(m:eY)(Q:SQ):VQ:=λ v z=>w.e o m z (Mu w G i v m (kN m Q))
noncomputable def Pn(w:Wf)(G:Gx):List Expr->List Value->eY->Zs->SQ->Prop
 | [],_,m,z,Q=>Q .next m z
 | t::ts,vs,m,z,Q=>match vs with
  | []=>False
  | v::vs=>match t with
   | .Name x _=>Gd (fx G x) (Pn w G ts vs (put m x v) z Q)
   | .Subscript o i _=>w.e o m z (Mu w G i v m λ z=>Pn w G ts vs m z Q)
   | _=>False
noncomputable def Md(G:Gx)(a b:Option (Str×Pos))(vs:List Expr):Option (Option (Str×Str)):=match a,b with
 | some (x,p),some (y,q)=>(match G.nm.lookup x==some .local&&(G.nm.lookup y==some .local&&(q.line==p.line&&(x !=y&&(!(vs.all (rB 8))&& !(vs.all (qz 8)))))) with
  | true=>some (some (x,y))
  | false=>none)
 | none,_=>some none
 | _,_=>none
noncomputable def v7(G:Gx)(ts vs:List Expr):Option (Option (Str×Str)):=match ts with
 | [a,b]=>Md G (lZ a) (lZ b) vs
 | [_,_,_,_]=>some none
 | [_,_,_,_,_]=>some none
 | _=>none
noncomputable def PW(w:Wf)(G:Gx)(ts:List Expr)(m:eY)(Q:SQ):List Value->Zs->Prop:=λ vs z=>Gd (vs.length==ts.length) (Pn w G ts vs m z Q)
noncomputable def Ec(x y:Str)(m:eY)(Q:SQ):List Value->Zs->Prop:=λ vs z=>match vs with
 | [vx,vy]=>Q .next (put (put m y vy) x vx) z
 | _=>False
noncomputable def IY(w:Wf)(G:Gx)(ts es:List Expr)(m:eY)(z:Zs)(Q:SQ):Prop:=
 Gd (es.length==ts.length&&(es.all iL&&ts.all iL)) (gC (v7 G ts es) (λ o=>gC o (λ xy=>Gd (fx G xy.1&&fx G xy.2) (w.l es m z (Ec xy.1 xy.2 m Q))) (w.l es m z (PW w G ts m Q))) False)
noncomputable def I7(Q:SQ)(J:eY->Zs->Prop):SQ:=λ f m z=>match f with
 | .next=>J m z
 | .ret v=>Q (.ret v) m z
 | _=>False
noncomputable def Kj(J:eY->Zs->Prop):SQ:=λ f m z=>match f with
 | .next=>J m z
 | _=>False
inductive IF(w:Wf)(G:Gx)(t:Str)(body:List Stmt)(m:eY)(Q:SQ)(x:Value)(z:Zs):Prop where
 | mk (a:Addr) (ao:ba) (xs:List Value) (ι:Type) (mf:ι->eY) (zf:ι->Zs) (J:Nat->ι->Prop) (i0:ι) (hx:x=.ref a) (hi:fy ao=some xs) (h0:J 0 i0) (hm:sW G.me m (mf i0)) (hz:jm G z (zf i0))
   (Xf:∀i j U,J i j->(zf j).ok G U->U.sees a ao)
   (turn:∀i j v,xs[i]? =some v->J i j->(LU G (zf j))->w.s body (put (mf j) t v) (zf j) (I7 Q (Rv G (J (i+1)) mf zf)))
   (fin:∀j,J xs.length j->(LU G (zf j))->Q .next (mf j) (zf j))
 | heats (A:Ad) (S:SS) (E:List (Addr×ba)) (ι:Type) (mf:ι->eY) (J:Nat->ι->Prop) (i0:ι) (ez:z=.s A S E) (hx:x=.ref (A .heats)) (hl:S.lock=none) (h0:J 0 i0) (hm:sW G.me m (mf i0))
   (turn:∀o i j u,(S.heats.map (·.1))[i]? =some u->J i j->w.s body (put (mf j) t (vi u)) (.s A (S.sLock (some o)) E) (Kj (Rv G (J (i+1)) mf λ V=> .s A (S.sLock (some o)) E)))
   (fin:∀j,J S.heats.length j->Q .next (mf j) (.s A S E))
noncomputable def SW(w:Wf)(body:List Stmt)(m:eY)(Q:SQ)(J:eY->Zs->Prop):Bool->Zs->Prop:=λ c z=>xD c (w.s body m z (I7 Q J)) (Q .next m z)
inductive vd(w:Wf)(G:Gx)(test:Expr)(body:List Stmt)(m:eY)(z:Zs)(Q:SQ):Prop where
 | mk (ι:Type) (mf:ι->eY) (zf:ι->Zs) (I:ι->Prop) (μ:ι->Nat) (i0:ι) (h0:I i0) (hm:sW G.me m (mf i0)) (hz:jm G z (zf i0))
   (turn:∀j,I j->(LU G (zf j))->w.t test (mf j) (zf j) (SW w body (mf j) Q (Rv G (λ j' =>I j' /\μ j' <μ j) mf zf)))
noncomputable def P1(m:eY)(Q:SQ):VQ:=λ v z=>Q (.ret v) m z
noncomputable def P9(m:eY)(Q:SQ):VQ:=λ V z=>Q .next m z
noncomputable def He(x:Str)(m:eY)(Q:SQ):VQ:=λ v z=>Q .next (put m x v) z
noncomputable def P6(w:Wf)(b o:List Stmt)(m:eY)(Q:SQ):Bool->Zs->Prop:=λ c z=>xD c (w.s b m z Q) (w.s o m z Q)
noncomputable def Do(w:Gx->Wf)(G:Gx)(e:Expr)(m:eY)(z:Zs)(K:VQ)(L:Prop):Prop:=match e with
 | .ListComp UI gens sc _=>Gd (Pe gens) (xZ w G UI gens sc m z K L)
 | e=>Els (pj e) ((w G).e e m z K) L
noncomputable def I0(w:Gx->Wf)(G:Gx)(t e:Expr)(m:eY)(z:Zs)(Q:SQ)(L:Prop):Prop:=match t with
 | .Name x _=>Gd (fx G x) (Do w G e m z (He x m Q) L)
 | .Attribute o attr _=>Els (isMe o m&&sx.contains attr) ((w G).e e m z (P8 G attr m Q)) L
 | .Subscript o i _=>Gd (pj e) ((w G).e e m z (P5 (w G) G o i m Q))
 | .Tuple ts _ _=>(match e with
  | .Tuple es _ _=>IY (w G) G ts es m z Q
  | _=>L)
 | _=>False
noncomputable def Mh(w:Gx->Wf)(G:Gx)(b:Stmt)(m:eY)(z:Zs)(Q:SQ):Prop:=match b with
 | .Return e _=>gC e (λ e=>(w G).e e m z (P1 m Q)) (Q (.ret .none) m z)
 | .If t b o _=>(w G).t t m z (P6 (w G) b o m Q)
 | .Expr e _=>Gd (pj e) ((w G).e e m z (P9 m Q))
 | .Assign ts e pos=>(match ts with
  | [t]=>I0 w G t e m z Q (l6 G (.Assign [t] e pos) m z Q)
  | _=>False)
 | .For t it body o pos=>gC (lZ t) (λ x=>Gd (o.isEmpty&&(fx G x.1&&qi it)) ((w G).e it m z (IF (w G) G x.1 body m Q))) (l6 G (.For t it body o pos) m z Q)
 | .While t body o _=>Gd o.isEmpty (vd (w G) G t body m z Q)
 | b=>l6 G b m z Q
noncomputable def BI(w:Wf)(r:List Stmt)(Q:SQ):SQ:=λ f m z=>match f with
 | .next=>w.s r m z Q
 | f=>Q f m z
noncomputable def R_(w:Gx->Wf)(G:Gx)(bs:List Stmt)(m:eY)(z:Zs)(Q:SQ):Prop:=match bs with
 | []=>Q .next m z
 | b::r=>Mh w G b m z (BI (w G) r Q)
noncomputable def Wk:Nat->Gx->Wf
 | 0=>λ V=>⟨λ V V V V=>False,λ V V V V=>False,λ V V V V V=>False,λ V V V V=>False,λ V V V V=>False⟩
 | k+1=>λ G=>⟨Sb (Wk k) G,RZ (Wk k G) G,Dk (Wk k G),Sa (Wk k G),R_ (Wk k) G⟩
end
section
section
variable{G:Gx}{F:dD}{m:eY}{z z' :Zs}{U:AH}{C:Cx}{n:Nat}{Q:VQ}{m0:Str->Option Value}
theorem Els.of{P Q R:Prop}(h:Els b P Q)(h1:b=true->P->R)(h2:b=false->Q->R):R:=by
 cases b with
 | true=>exact h1 rfl h
 | false=>exact h2 rfl h
theorem gC.of{α:Type}{o:Option α}{K:α->Prop}{L R:Prop}(h:gC o K L)(h1:∀x,o=some x->K x->R)(h2:o=none->L->R):R:=by
 cases o with
 | none=>exact h2 rfl h
 | some x=>exact h1 x rfl h
theorem jy.of{K:Int->Prop}(h:jy a K):∃i t,a=.int i t/\K i:=by
 cases a<;>first | exact ib _ _ rfl h | exact h.elim
theorem qm.of{K:Int->Prop}{L R:Prop}(h:qm a K L)(h1:∀i t,a=.int i t->K i->R)(h2:L->R):R:=by
 cases a<;>first | exact h1 _ _ rfl h | exact h2 h
theorem l4.of{K:Int->Prop}(h:l4 a K):∃i,a=vi i/\K i:=by
 cases a with
 | int i t=>cases t with
  | zero=>exact bY _ rfl h
  | succ=>exact h.elim
 | _=>exact h.elim
theorem tR.of{K:Nat->Prop}(h:tR a K):∃i,a=vn i/\K i:=by
 cases a with
 | int i t=>cases i with
  | ofNat i=>cases t with
   | zero=>exact bY _ rfl h
   | succ=>exact h.elim
  | negSucc=>exact h.elim
 | _=>exact h.elim
theorem pz.of{K:Bool->Prop}(h:pz a K):∃i,a=.bool i/\K i:=by
 cases a<;>first | exact bY _ rfl h | exact h.elim
theorem Hd.of{K:Addr->Prop}(h:Hd a K):∃i,a=.ref i/\K i:=by
 cases a<;>first | exact bY _ rfl h | exact h.elim
theorem kS.of{K:Ad->SS->List (Addr×ba)->Prop}(h:kS z K):∃A S E,z=.s A S E/\K A S E:=by
 cases z with
 | no E=>exact h.elim
 | s A S E=>exact Of A S E rfl h
theorem Ho.of{vs:List Value}{K:Value->Prop}(h:Ho vs K):∃v,vs=[v]/\K v:=by
 cases vs with
 | nil=>exact h.elim
 | cons v vs=>cases vs with
  | nil=>exact bY _ rfl h
  | cons=>exact h.elim
theorem jx(k:z.ok G U)(h:U.get a=none):(z.new a o).ok G (U.put a o):=by
 cases z with
 | no E=>exact Fl.fresh k h
 | s A S E=>exact St.fresh k h
theorem zQ(k:z.ok G U)(h:U.get a=none):z.ok G (U.put a o):=by
 cases z with
 | no E=>exact (Fl.fresh (o:=o) k h).subl (bC _ _)
 | s A S E=>exact (St.fresh (o:=o) k h).subl (bC _ _)
noncomputable def Zs.hp(G:Gx):Zs->Option (Addr×Ad×SS)
 | .no _=>none
 | .s A S _=>some (G.me,A,S)
theorem I1:z.ok G U=HS (z.hp G) U z.E:=by cases z<;>rfl
theorem WE.bd{α:AH->Prop}{Q' :Value->AH->Prop}(h:WE C F n e m0 U (pv G Q))(k:∀v z U,z.ok G U->Q v z->Q' v U):WE C F n e m0 U Q' :=h.mono λ v U p=>by
 cases p with
 | mk z ok q=>exact k v z U ok q
theorem WT.bd{Q:Bool->Zs->Prop}{Q' :Bool->AH->Prop}(h:WT C F n e m0 U (pv G Q))(k:∀v z U,z.ok G U->Q v z->Q' v U):WT C F n e m0 U Q' :=h.mono λ v U p=>by
 cases p with
 | mk z ok q=>exact k v z U ok q
theorem WL.bd{Q:List Value->Zs->Prop}{Q' :List Value->AH->Prop}(h:WL C F n e m0 U (pv G Q))(k:∀v z U,z.ok G U->Q v z->Q' v U):WL C F n e m0 U Q' :=λ O Z s pos W R K=>
 h O Z s pos _ R λ v s U R p=>K _ _ _ R (p.casesOn λ z ok q=>k _ _ _ ok q)
theorem WS.bd{Q:SQ}{Q' :ig->(Str->Option Value)->AH->Prop}(h:WS C F n e m0 U (vI G Q))(k:∀f m z U,z.ok G U->Q (Rj f) m z->Q' f (dA G.me m) U):WS C F n e m0 U Q' :=h.mono λ f m U p=>by
 cases p with
 | mk m z e ok q=>cases e;exact k _ _ _ _ ok q
theorem V2.bd{f:Value->Value->Sem Value}{Q' :Value->AH->Prop}(h:ji C F n f a b m0 U (qe (pv G Q)))(k:∀v z U,z.ok G U->Q v z->Q' v U):ji C F n f a b m0 U (qe Q'):=λ a' b' ea eb O Z s W R K=>
 h a' b' ea eb O Z s _ R λ v s U R p=>K _ _ _ R (p.casesOn λ z ok q=>k _ _ _ ok q)
theorem WI.bd{Q:Zs->Prop}{Q' :AH->Prop}(h:WI C F n o i v m0 U (Pz G Q))(k:∀z U,z.ok G U->Q z->Q' U):WI C F n o i v m0 U Q' :=λ o' i' v' e1 e2 e3 O Z s W R K=>
 h o' i' v' e1 e2 e3 O Z s _ R λ v s U R p=>K _ _ _ R (p.casesOn λ z ok q=>k _ _ ok q)
theorem WP.mono{Q Q' :Option Int->AH->Prop}(h:WP C F n e m0 U Q)(k:∀v U,Q v U->Q' v U):WP C F n e m0 U Q' :=by
 cases e with
 | none=>exact k _ _ h
 | some e=>
  have h' :WE C F n e m0 U λ v U' =>∃i,v=vi i/\Q (some i) U' :=h
  exact (h'.mono λ v U' p=>by
   refine aH p λ i e q=>?_;clear p
   exact bY i e (k _ _ q):WE C F n e m0 U λ v U' =>∃i,v=vi i/\Q' (some i) U')
theorem WP.bd{Q:Option Int->Zs->Prop}{Q' :Option Int->AH->Prop}(h:WP C F n e m0 U (pv G Q))(k:∀v z U,z.ok G U->Q v z->Q' v U):WP C F n e m0 U Q' :=h.mono λ v U p=>by
 cases p with
 | mk z ok q=>exact k v z U ok q
theorem nE(h:m.lookup x=some w):dA me m x=some (w.val me):=by unfold dA;exact ah h rfl
theorem d5(me:Addr)(m:eY)(x:Str)(v:Value):fA (dA me m) x v=dA me (put m x v):=by
 funext y
 unfold fA dA put
 refine ah bv ?_
 by_cases h:y=x
 ·subst h;exact ae (if_pos rfl) (ah (beq_self_eq_true ..) rfl)
 ·exact ae (if_neg h) (ah (beq_false_of_ne h) rfl)
theorem rx(h:er a=.int i t):er a=vi i:=by
 cases a<;>first | (cases h;rfl) | exact (cI mj h rfl).elim
theorem V2.int{f:Value->Value->Sem Value}{Q:Value->AH->Prop}(h:ji C F n f (vi i) (vi j) m0 U Q):ji C F n f (.int i t) (.int j u) m0 U Q:=
 λ a b ha hb=>h a b (rx ha) (rx hb)
theorem V1.int{f:Value->Sem Value}{Q:Value->AH->Prop}(h:WV C F n f (vi i) m0 U Q):WV C F n f (.int i t) m0 U Q:=
 λ a ha=>h a (rx ha)
theorem BM{f:Value->Value->Sem Value}{P:Int->Int->Prop}{Q:Value->AH->Prop}(hf:∀i j,P i j->ji C F n f (vi i) (vi j) m0 U Q)(h:jy a λ i=>jy b λ j=>P i j):ji C F n f a b m0 U Q:=by
 refine cu h.of λ i t Uv h1=>?_;subst Uv
 (try clear h);refine cu h1.of λ j u Uy h2=>?_;subst Uy
 exact V2.int (hf i j h2)
theorem G5{a b:Value}(h:DN G op a b z Q)(k:z.ok G U):ji (CX G.X) F G.n (fB op) a b m0 U (qe (pv G Q)):=by
 cases op with
 | Add=>exact qm.of h (λ i t e h=>by subst e;exact BM (a:=.int i t) (P:=λ i j=>Q (vi (i+j)) z) (λ i j h=>J8 ⟨z,k,h⟩) h) λ h=>h.run F m0 U k
 | Sub=>exact BM (λ i j h=>J2 ⟨z,k,h⟩) h
 | _=>exact m_.run h F m0 U k
theorem J_(h:Se op a z Q)(k:z.ok G U):WV (CX G.X) F G.n (LX op) a m0 U (qe (pv G Q)):=by
 cases op with
 | USub=>
  refine cu (jy.of h) λ i t UB h1=>?_;subst UB
  exact V1.int (J5 ⟨z,k,h1⟩)
 | Not=>
  refine aH (pz.of h) λ b UC h1=>?_;subst UC
  exact J4 ⟨z,k,h1⟩
 | _=>exact h.elim
theorem rq{a b:Value}(h:J' G op a b z Q)(k:z.ok G U):ji (CX G.X) F G.n (bm op) a b m0 U (qe (pv G Q)):=by
 cases op with
 | Lt=>exact BM (λ i j h=>KF ⟨z,k,h⟩) h
 | LtE=>exact BM (λ i j h=>KG ⟨z,k,h⟩) h
 | GtE=>exact BM (λ i j h=>KL ⟨z,k,h⟩) h
 | Gt=>exact qm.of h (λ i t e h=>by subst e;exact BM (a:=.int i t) (P:=λ i j=>Q (.bool (decide (i>j))) z) (λ i j h=>KJ ⟨z,k,h⟩) h) λ h=>h.run F m0 U k
 | NotEq=>exact qm.of h (λ j u e h=>by
   (try clear h);subst e
   refine cu (jy.of h) λ i t UF h1=>?_;subst UF
   exact V2.int (KE ⟨z,k,h1⟩)) λ h=>h.run F m0 U k
 | Eq=>exact qm.of h (λ j u e h=>by
   (try clear h);subst e
   refine cu (jy.of h) λ i t UP h1=>?_;subst UP
   exact V2.int (KM ⟨z,k,h1⟩)) λ h=>h.run F m0 U k
 | _=>exact m_.run h F m0 U k
theorem rp{Q:Bool->Zs->Prop}(h:BH Q v z)(k:z.ok G U):WV (CX G.X) F G.n lS v m0 U (pv G Q):=by
 refine aH (pz.of h) λ b UQ h1=>?_;subst UQ
 exact C_ ⟨z,k,h1⟩
theorem DO{vs:List Value}(h:Sf G f vs z Q)(k:z.ok G U):WB (CX G.X) F G.n f vs m0 U (qe (pv G Q)):=
 Els.of h (λ e h=>by
  refine ah (df e) (aH (Ho.of h) λ v UT h1=>?_);subst UT
  (try clear h);refine cu (jy.of h1) λ i t U9 h2=>?_;subst U9
  exact λ Us e=>by
   refine aH (uc e) λ a' UM e1=>?_;subst UM
   exact EY ⟨z,k,h2⟩ [a'] (ae aU (ah (rx e1) rfl))) λ V h=>h.run F m0 U k
theorem Kn{a b:Prop}(h:xD c A B)(ha:A->a)(hb:B->b):if c=true then a else b:=by
 obtain ⟨t,f⟩:=h
 cases c with
 | true=>exact ha (t rfl)
 | false=>exact hb (f rfl)
end
structure pU(w:Gx->Wf):Prop where
 e:∀{G e m z Q F U},(w G).e e m z Q->GF G F->z.ok G U->WE (CX G.X) F G.n e (dA G.me m) U (pv G Q)
 t:∀{G e m z Q F U},(w G).t e m z Q->GF G F->z.ok G U->WT (CX G.X) F G.n e (dA G.me m) U (pv G Q)
 a:∀{G op es m z Q F U},(w G).a op es m z Q->GF G F->z.ok G U->WA (CX G.X) F G.n op es (dA G.me m) U (pv G Q)
 l:∀{G es m z Q F U},(w G).l es m z Q->GF G F->z.ok G U->WL (CX G.X) F G.n es (dA G.me m) U (pv G Q)
 s:∀{G bs m z Q F U},(w G).s bs m z Q->GF G F->z.ok G U->WS (CX G.X) F G.n bs (dA G.me m) U (vI G Q)
theorem fY{α:Type}{l:List (Str×α)}{v:α}(h:l.lookup x=some v):(x,v)∈l:=by
 induction l with
 | nil=>exact (bH h).elim
 | cons p r ih=>
  rewrite [bv] at h
  cases e:x==p.1 with
  | true=>replace h:=e▸h;(try clear ih);have UW:=sI h;clear h;subst UW;(try clear ih);have e:=df e;subst e;exact .head _
  | false=>replace h:=e▸h;exact .tail _ (ih h)
noncomputable def uM(q:Str×Int)(o:Option (Option Value)):Bool:=match o with
 | some (some (.int i _))=>i==q.2&& !(q.1==("__debug__":Str))
 | _=>false
theorem uM.of(h:uM q o=true):∃t,o=some (some (.int q.2 t))/\(q.1==("__debug__":Str))=false:=by
 cases o with
 | none=>exact (iP h).elim
 | some o=>cases o with
  | none=>exact (iP h).elim
  | some v=>cases v with
   | int i t=>
    exact aP (bf.mp h) λ h1 h2=>(bY _ (ah (df h1) rfl) (by replace h2:=(dh ..)▸h2;exact h2))
   | _=>exact (iP h).elim
theorem Hp(p:iu):Ja.all (λ q=>uM q (pY (KK p) du q.1))=true:=by kernel_rfl
noncomputable def Ot(q:Str×Value):Bool:=q.1 !=("__name__":Str)&& !(q.1==("__debug__":Str))&&match q.2 with
 | .builtin _=>true
 | .type _=>true
 | _=>false
theorem KS:HU.all Ot=true:=by decide
theorem AB{x:Str}{v:Value}(h:HU.lookup x=some v):x≠ "__name__"/\(x==("__debug__":Str))=false/\((∃b,v=.builtin b)\/∃b,v=.type b):=by
 have:=bZ.mp KS _ (fY h)
 refine aP (bf.mp this) λ h12 h3=>(aP (bf.mp h12) λ h1 h2=>(dn (bne_iff_ne.mp h1) ((dh _).mp h2) ?_))
 cases v with
 | builtin b=>exact .inl ⟨_,rfl⟩
 | type b=>exact .inr ⟨_,rfl⟩
 | _=>exact (iP h3).elim
section
variable{w:Gx->Wf}{G:Gx}{F:dD}{m:eY}{z:Zs}{U:AH}{Q:VQ}
theorem A_{x:Str}{pos:Pos}(h:Dg G x m z Q)(g:GF G F)(k:z.ok G U):WE (CX G.X) F G.n (.Name x pos) (dA G.me m) U (pv G Q):=
 gC.of h (λ v e h=>f_ (nE e) ⟨z,k,h⟩) λ V h=>by
  refine aP h.of λ e h=>?_
  have hk:=g.kind _ _ (df e) (by decide)
  refine gC.of h (λ i e2 h=>?_) λ V h=>gC.of h (λ v e2 h=>?_) λ V h=>h.elim
  ·exact aH (uM.of (bZ.mp (Hp G.X.w.params) _ (fY e2))) λ t e3 e4=>(Iu hk e3 e4 ⟨z,k,h⟩)
  ·refine ck (AB e2) λ h1 h2 h3=>(zd hk (Kd _ (fY e2)) (KU (fY e2)) h1 h2 ⟨z,k,?_⟩)
   (try clear e2);rcases h3 with ⟨b,rfl⟩ | ⟨b,rfl⟩<;>exact h
theorem xY(h:zJ c z Q)(k:z.ok G U):WE (CX G.X) F G.n (.Constant c j pos) (dA G.me m) U (pv G Q):=by
 cases c with
 | int i=>exact zc ⟨z,k,h⟩
 | str i=>exact zb ⟨z,k,h⟩
 | bool i=>exact vf ⟨z,k,h⟩
 | none=>exact Iq ⟨z,k,h⟩
 | _=>exact h.elim
theorem ll(h:lZ o=some x):o=.Name x.1 x.2:=by
 cases o<;>first | (have UV:=sI h;clear h;subst UV;rfl) | exact (bH h).elim
set_option tactic.hygienic true in
theorem uI(h:isMe o m=true):∃x p,o=.Name x p/\dA G.me m x=some (.ref G.me):=by
 unfold isMe at h
 split at h
 ·rename_i x p e
  split at h
  ·rename_i w e2
   refine ib x p (ll e) (ae (nE e2) ?_)
   (try clear e2);cases w with
   | v x=>exact (iP h).elim
   | me=>rfl
  ·exact (iP h).elim
 ·exact (iP h).elim
theorem yu(h:nsLook x l=some v):(x,v)∈l:=by
 induction l with
 | nil=>exact (bH h).elim
 | cons p r ih=>
  unfold nsLook at h
  split at h
  ·(try clear ih);have U8:=sI h;clear h;subst U8;rename_i e;exact dt e (.head _)
  ·exact .tail _ (ih h)
theorem s7(h:nsLook attr (fields A S)=some v):qy v=true:=by
 have:(fields A S).all (λ p=>qy p.2)=true:=rfl
 exact bZ.mp this _ (yu h)
theorem Be{o:Expr}(h:Dl G o attr pos m z Q)(g:GF G F)(k:z.ok G U):WE (CX G.X) F G.n (.Attribute o attr pos) (dA G.me m) U (pv G Q):=by
 refine aP (Gd.of h) λ e h=>(cu (uI (G:=G) e) λ x p U7 hx=>?_);subst U7
 refine pH h.of λ A S E Ve h1=>?_;subst Ve
 exact Els.of h1 (λ e3 h=>gC.of h (λ v e2 h=>(Ip (show St G.me A S U E from k) hx e2 (Sn _ (fk.mp e3)) (s7 e2) ⟨_,k,h⟩)) λ V h=>h.elim) λ V h=>h.run F U g k
theorem kR(h:iL e=true)(env:Env):dj (e::es) env=(false,gb e env)::dj es env:=by
 cases e<;>first | rfl | exact (iP h).elim
theorem v_(h:es.all iL=true):(fg pos (dj es env)).all (!·.1)=true:=by
 induction es with
 | nil=>rfl
 | cons e es ih=>
  have h' :=bf.mp (vR▸h)
  rewrite [kR h'.1]
  exact (ih h'.2:)
theorem gl(h:es.all iL=true):ip es:=λ env pos=>by
 have:=v_ (env:=env) (pos:=pos) h
 rewrite [bZ] at this
 refine gk Gk ?_
 intro x hx
 have:=this x hx
 simpa using this
theorem I5(h:(e::r).all iL=true)(env:Env)(pos:Pos):fg pos (dj (e::r) env)=(false,gb e env)::fg pos (dj r env):=by
 rewrite [kR (bf.mp (vR▸h)).1];rfl
theorem HV(h:uu o=true)(name:Str)(env:Env)(t:Sem Value):Co o name env t=t:=by
 cases o with
 | Call f args Vv p=>
  cases args with
  | nil=>exact (iP h).elim
  | cons a r=>(try clear h);cases f<;>rfl
 | _=>rfl
theorem nK(h:oJ US pos o args=true):(US.endLine==pos.line)=true/\args.length<20/\args.all iL=true/\uu o=true:=by
 unfold oJ at h
 simp only [dL,decide_eq_true_eq] at h
 exact ge h.1.1.1 h.1.1.2 h.1.2 h.2
theorem uV(h:oJ US pos o args=true)(env:Env):gb (.Call (.Attribute o name US) args [] pos) env=(do
   let ov<-gb o env
   fT US.atName
   let (f,first)<-fF [ov] (qY ov name (do return (<-importBound o env).getD true))
   lW pos f first (fg pos (dj args env)) []):=by
 refine fE (nK h) λ h1 h2 h3 h4=>(?_:(do
  let ov<-Co o name env (gb o env)
  fT US.atName
  methodCall o name US pos env ov (args.length+([]:List Gl).length) (fg pos (dj args env)) (qA pos (kD [] env)))=_)
 rewrite [HV h4]
 refine congrArg _ (funext λ ov=>congrArg _ (funext λ V=>?_))
 unfold methodCall methodCallForm methodCallPos
 exact ah (v_ h3) (ah h1 (ah (decide_eq_true (show args.length+([]:List Gl).length+(if (qA pos (kD [] env)).isEmpty=true then 0 else 1)<30 from ai h2 (by decide))) rfl))
theorem jY(h:qi e=true)(env:Env)(x:Value):da e env x=eu x:=by
 cases e<;>first | rfl | exact (iP h).elim
end
end
section
noncomputable def Kp(p:iu)(q:Str×Addr):Bool:=F9 (KK p) (.ref q.2)&& !(q.1==("__debug__":Str))
theorem BP(p:iu):Em.all (Kp p)=true:=by kernel_rfl
theorem yy(h:uz.lookup x=some f):nsLook x (fields A S)=none:=by
 have:uz.all (λ q=>(nsLook q.1 (fields A S)).isNone)=true:=rfl
 exact Option.isNone_iff_eq_none.mp (bZ.mp this _ (fY h))
section
variable{w:Gx->Wf}{G:Gx}{F:dD}{m:eY}{z:Zs}{U:AH}{C:Cx}{n:Nat}{Q:VQ}
noncomputable def vl(ty:String)(name:Str)(f:String):Prop:=Slot ty name f/\typeOf (.builtin f)=eu (.type "method_descriptor")
theorem Mp(h:yA.lookup name=some f):vl "list" name f:=by
 have h:=fY h
 simp only [yA,aM,dB,or_false,GB] at h
 rcases h with ⟨rfl,rfl⟩ | ⟨rfl,rfl⟩
 ·exact ⟨PySem.F.slot_list_append,PySem.F.type_list_append⟩
 ·exact ⟨tu,PySem.F.type_list_extend⟩
theorem Oq(h:yO.lookup name=some f):vl "dict" name f:=by
 have h:=fY h
 simp only [yO,aM,dB,or_false,GB] at h
 rcases h with ⟨rfl,rfl⟩ | ⟨rfl,rfl⟩ | ⟨rfl,rfl⟩
 ·exact ⟨mo,PySem.F.type_dict_get⟩
 ·exact ⟨rh,PySem.F.type_dict_setdefault⟩
 ·exact ⟨tv,PySem.F.type_dict_update⟩
theorem DU(S:pU w)(g:GF G F)(k:z.ok G U)(hc:oJ US pos o args=true)(hs:vl "list" name f)
  (h:(w G).e o m z (P3 (w G) G f args m Q)):WE (CX G.X) F G.n (.Call (.Attribute o name US) args [] pos) (dA G.me m) U (pv G Q):=
 FH (uV hc _) (gl (nK hc).2.2.1) hs.1 hs.2 ((S.e h g k).bd (α:=λ V=>True) λ ov UG U1 Uw q=>by
  refine cu (q.1.run U1 Uw) λ a xs e hr=>?_
  subst e
  exact jG a xs rfl hr ((S.l q.2 g Uw).bd λ vs UR Uq UE q=>q.run F _ Uq UE))
theorem EC(S:pU w)(g:GF G F)(k:z.ok G U)(hc:oJ US pos o args=true)(hs:vl "dict" name f)
  (h:(w G).e o m z (Qc (w G) G f args m Q)):WE (CX G.X) F G.n (.Call (.Attribute o name US) args [] pos) (dA G.me m) U (pv G Q):=
 FJ (uV hc _) (gl (nK hc).2.2.1) hs.1 hs.2 ((S.e h g k).bd (α:=λ V=>True) λ ov UG U1 Uw q=>by
  refine cu (q.1.run U1 Uw) λ a xs e hr=>?_
  subst e
  exact jG a xs rfl hr ((S.l q.2 g Uw).bd λ vs UR Uq UE q=>q.run F _ Uq UE))
theorem Ba(S:pU w)(h:Dh (w G) G o name args m z Q)(g:GF G F)(k:z.ok G U)(hc:oJ US pos o args=true):WE (CX G.X) F G.n (.Call (.Attribute o name US) args [] pos) (dA G.me m) U (pv G Q):=
 gC.of h (λ f e h=>DU S g k hc (Mp e) h) λ V h=>gC.of h (λ f e h=>EC S g k hc (Oq e) h) λ V h=>by
  refine aP h.of λ e h=>?_
  have e:=df e;subst e
  exact Els.of h (λ V h=>DU S g k hc ⟨vM,PySem.F.type_list_pop⟩ h) λ V h=>EC S g k hc ⟨mn,PySem.F.type_dict_pop⟩ h
theorem Hg(h:Hh v=true):∃b,v=.builtin b:=by
 cases v<;>first | exact ⟨_,rfl⟩ | exact (iP h).elim
theorem GO(S:pU w)(h:Mi (w G) G x args Vv m z Q (iQ G (.Call (.Name x p) args Vv pos) m z Q))(hp:args.all iL=true)(hk:F.env.kindOf x=some .globalImplicit)(g:GF G F)(k:z.ok G U):
  WE (CX G.X) F G.n (.Call (.Name x p) args Vv pos) (dA G.me m) U (pv G Q):=by
 have ne:∀{f:Value},(Hh f&& !args.isEmpty)=true->(∃b,f=.builtin b)/\∃e r,args=e::r:=λ h=>by
  (try clear hp);refine aP (bf.mp h) λ h1 h2=>⟨Hg h1,?_⟩
  clear h;cases args with
  | nil=>exact (iP h2).elim
  | cons e r=>exact Aq e r rfl
 cases Vv with
 | nil=>
  refine gC.of h (λ f e h=>?_) λ V h=>gC.of h (λ f e h=>?_) λ V h=>h.run F U g k
  ·have:=bf.mp (bZ.mp (BP G.X.w.params) _ (fY e))
   exact xg hk (Tf _ (fY e)) (by simpa using this.2) this.1 (gl hp) ((S.l h g k).bd λ vs UR Uq UE q=>q.run Uq UE)
  ·refine ck (AB e) λ h1 h2 h3=>?_
   have e1:=fY e
   (try clear e);rcases h3 with ⟨b,rfl⟩ | ⟨b,rfl⟩
   ·exact sD hk (Kd _ e1) (KU e1) h1 h2 (gl hp) ((S.l h g k).bd λ vs UR Uq UE q=>DO q UE)
   ·exact sB hk (Kd _ e1) (KU e1) h1 h2 (gl hp) ((S.l h g k).bd λ vs UR Uq UE q=>DO q UE)
 | cons k1 r=>cases k1 with
  | mk n1 v1 p1=>cases n1 with
   | none=>cases r<;>exact ds h
   | some n1=>cases r with
    | nil=>
     refine gC.of h (λ f e h=>(aP h.of λ h0 h=>?_)) λ V h=>h.run F U g k
     obtain ⟨⟨b,rfl⟩,e',r,rfl⟩:=ne h0
     exact ck (AB e) λ h1 h2 V=>(xf hk (Kd _ (fY e)) (KU (fY e)) h1 h2 (I5 hp) (gl hp) ((S.l h g k).bd λ vs UR Uq UE q=>(S.e q g UE).bd (α:=λ V=>True) λ v Wg Ux Vt q=>q.run F _ Ux Vt))
    | cons k2 r=>cases k2 with
     | mk n2 v2 p2=>cases n2 with
      | none=>exact ds h
      | some n2=>cases r with
       | cons=>exact ds h
       | nil=>
        refine gC.of h (λ f e h=>(aP h.of λ h0 h=>?_)) λ V h=>h.run F U g k
        obtain ⟨⟨b,rfl⟩,e',r,rfl⟩:=ne h0
        exact ck (AB e) λ h1 h2 V=>(xe hk (Kd _ (fY e)) (KU (fY e)) h1 h2 (I5 hp) (gl hp) ((S.l h g k).bd λ vs UR Uq UE q=>(S.e q g UE).bd (α:=λ V=>True) λ v Wg Ux Vt q=>(S.e q g Vt).bd (α:=λ V=>True) λ v Wx U4 VZ q=>q.run F _ U4 VZ))
theorem Bc(S:pU w)(h:Dj (w G) G f args Vv pos m z Q (iQ G (.Call f args Vv pos) m z Q))(g:GF G F)(k:z.ok G U):WE (CX G.X) F G.n (.Call f args Vv pos) (dA G.me m) U (pv G Q):=by
 cases f with
 | Attribute o name US=>
  refine Els.of h (λ hc h2=>?_) λ V h=>h.run F U g k
  (try clear h);refine aP (bf.mp hc) λ hc1 hk=>?_
  clear hc;cases Vv with
  | cons=>exact (iP hk).elim
  | nil=>
   refine Els.of h2 (λ hm h3=>?_) λ V h3=>Ba S h3 g k hc1
   clear h2;refine cu (uI (G:=G) hm) λ x p Uv hx=>?_;subst Uv
   refine pH h3.of λ A SS E Uy h4=>?_;subst Uy
   exact gC.of h4 (λ f e1 h=>FF (show St G.me A SS U E from k) hx (uV hc1 _) (gl (nK hc1).2.2.1) (yy e1) (Sh _ (fY e1)) ((S.l h g k).bd λ vs UR Uq UE q=>q.run Uq UE)) λ V h=>h.elim
 | Name x p=>
  exact aP (Gd.of h) λ hp h=>(aP (bf.mp hp) λ UO hp2=>(GO S h UO (g.kind _ _ (df (bf.mp hp2).2) (by decide)) g k))
 | _=>exact iQ.run h F U g k
theorem BC{p:Str->Bool}:(m.filter λ q=>p q.1).lookup x=if p x=true then m.lookup x else none:=by
 induction m with
 | nil=>refine eC (λ V=>?_) λ V=>?_<;>rfl
 | cons q r ih=>
  refine ah cO (ah bv ?_)
  cases e:x==q.1 with
  | true=>
   have e:=df e;subst e
   cases hp:p q.1 with
   | true=>exact ah (if_pos rfl) (ah (if_pos rfl) (ae bv (ah e rfl)))
   | false=>exact ah (if_neg c9) (ah (if_neg c9) (ae ih (ah hp (ae (if_neg c9) rfl))))
  | false=>
   refine eC (λ V=>?_) λ V=>?_
   ·exact ae bv (ah e ih)
   ·exact ih
theorem pL(me:Addr)(sc:Scope)(m:eY):dA me (om sc m)=jz sc (dA me m):=by
 funext x
 unfold jz dA om
 refine ah (BC (p:=λ x=>sc.names.lookup x==some .free)) ?_
 by_cases h:sc.names.lookup x=some .free
 ·exact ah (if_pos h) (ah (if_pos (ah h rfl)) rfl)
 ·refine ah (if_neg h) (ah (if_neg (by exact gk beq_iff_eq h)) ?_);rfl
theorem eZ(g:GF G F)(O:F.Ok C n)(h:fx G x=true):Stores F x:=by
 unfold fx at h
 simp only [dL,sT,bne_iff_ne,ne_eq,beq_iff_eq] at h
 refine dn (beq_false_of_ne h.1.1) (beq_false_of_ne h.1.2) ?_
 rcases h.2 with h3 | h3
 ·exact .inl (g.kind _ _ h3 (by decide))
 ·have:=g.kind _ _ h3.1 (by decide)
  exact .inr ⟨this,O.cok _ (.inl this) h3.2⟩
structure Ru(G:Gx)(F:dD)(sc:Scope)(t:Str):Prop where
 ok:pV F sc
 nf:(sc.names.lookup t==some .free)=false
 st:∀L2 mL,Stores (Fc F sc L2 mL) t
 gf:∀L2 mL,GF (G.sub G.n sc.names) (Fc F sc L2 mL)
theorem wf(g:GF G F)(O:F.Ok C n)(h:rK G sc t=true):Ru G F sc t:=by
 unfold rK at h
 simp only [dL,sT,bne_iff_ne,ne_eq,beq_iff_eq,bZ,decide_eq_true_eq] at h
 refine ck h λ UB UC h6=>?_;clear h;refine aP UB λ U9 h3=>?_;clear UB;obtain ⟨h1,h2⟩:=U9;refine aP UC λ h4 h5=>?_;clear UC
 have rl:∀L2 mL x,(Fc F sc L2 mL).env.kindOf x=(sc.names.lookup x).map λ k=>if (k==.free&&F.env.kindOf x==some .cell)=true then .cell else k:=λ L2 mL x=>iK sc F.env O.ek x
 have hkind:∀L2 mL x k,sc.names.lookup x=some k->k≠ .free->(Fc F sc L2 mL).env.kindOf x=some k:=λ L2 mL x k e ne=>ae (rl ..) (ah e (ae (d8 ..) (ah (beq_false_of_ne ne) rfl)))
 refine ⟨⟨h1,h2,λ x hx e=>⟨?_,(h3 x hx).1⟩,λ x hx=>(h3 x hx).1⟩,?_,λ L2 mL=>⟨beq_false_of_ne h4,beq_false_of_ne h5,?_⟩,λ L2 mL=>⟨hkind L2 mL,λ x e=>?_,?_,?_⟩⟩
 ·rcases (h3 x hx).2 with (q | q) | q
  ·exact absurd e q
  ·exact .inl (g.kind _ _ q (by decide))
  ·exact g.free _ q
 ·rcases h6 with q | q<;>refine ah q ?_<;>rfl
 ·rcases h6 with q | q
  ·exact .inl (hkind L2 mL _ _ q (by decide))
  ·exact .inr ⟨hkind L2 mL _ _ q (by decide),cz.mp (gv _ _ _ (.inl q))⟩
 ·refine ah (rl ..) (ah (show sc.names.lookup x=some .free from e) (ah (d8 ..) (eC (λ V=>?_) λ V=>?_)))
  ·exact .inl rfl
  ·exact .inr rfl
 ·exact ((ah h1 rfl):(if sc.kind.isAnnotationScope=true then _ else sc.kind)=_)
 ·exact ((ah h1 rfl):(sc.kind==.module&&_)=false)
theorem XD.mono{m:Str->Option Value}{Q Q' :Value->AH->Prop}(h:XD C F n UI t ifs sc m x U Q)(k:∀v U,Q v U->Q' v U):XD C F n UI t ifs sc m x U Q' :=by
 refine Ez h λ a ao xs J h1 h2 h3 h4 h5 h6 h7=>?_;clear h
 exact Ao a ao xs J h1 h2 h3 h4 h5 h6 (λ ys U' b hj hb=>k _ _ (h7 ys U' b hj hb))
theorem F1.xd(S:pU w)(h:F1 w G UI t ifs sc m Q x z)(k:z.ok G U)(hg:∀L2 mL,GF (G.sub G.n sc.names) (Fc F sc L2 mL)):
  XD (CX G.X) F G.n UI t ifs sc (dA G.me m) x U (pv G Q):=by
 obtain ⟨a,ao,xs,ι,zf,J,i0,hx,hi,hz,h0,hs,Xf,turn,fin⟩:=h
 refine Ao a ao xs (λ i ys U=>∃j,J i ys j/\(zf j).ok G U) hx hi hz ⟨i0,h0,hs U k⟩ (λ i ys U p=>?_) (λ L2 mL i v ys U' hv p=>?_) (λ ys U' b p hb=>?_)
 ·refine aH p λ j hj hk=>?_;clear p;exact Xf i ys j U hj hk
 ·refine aH p λ j hj hk=>?_;clear p
  have ht:=turn i ys j v hv hj ⟨_,hk⟩
  refine dt (pL ..) (ah (d5 ..) ?_)
  have wk:∀{J:Value->ι->Prop} {U' :AH} {z' :Zs},(w (G.sub G.n sc.names)).e UI (put (om sc m) t v) z' (λ r=>Pr G (J r) zf)->z'.ok G U' ->WE (CX G.X) (Fc F sc L2 mL) G.n UI (dA G.me (put (om sc m) t v)) U' λ v U' =>∃j,J v j/\(zf j).ok G U' :=
   λ h k=>(S.e h (hg L2 mL) k).bd (G:=G.sub G.n sc.names) (α:=λ V=>True) λ v z' U' k' q=>by
    obtain ⟨j',hj',hs'⟩:=q
    exact bY j' hj' (hs' _ k')
  (try clear turn);cases ifs with
  | nil=>exact Cj (wk ht hk)
  | cons c r=>(try clear turn);cases r with
  | cons=>exact ds ht
  | nil=>exact F0 ((S.t ht (hg L2 mL) hk).bd (G:=G.sub G.n sc.names) λ b UG U1 Uw q=>Kn q (λ q=>wk q Uw) λ q=>by
    obtain ⟨j',hj',hs'⟩:=q
    exact bY j' hj' (hs' _ Uw))
 ·refine aH p λ j hj hk=>?_;clear p
  exact ⟨_,jx hk hb,fin ys j hj ⟨_,hk⟩ b⟩
theorem Sj{a b:Prop}(h:a):if true=true then a else b:=h
theorem xV(l:List (Int×Value))(k:Int)(v:Value):(dM l k v).length<=l.length+1:=by
 unfold dM
 refine eC (λ V=>?_) λ V=>?_
 ·exact ah (ag ..) (gm _)
 ·exact ah aA (aw _)
theorem Au(S:pU w){J:List (Int×Value)->Prop}{K:List (Int×Value)->AH->Prop}(hGi:Gi.me=G.me/\Gi.n=G.n/\Gi.X=G.X)(gi:GF Gi Fi)(hy:ys.length<=i)(hi:i<10000000)
  (h:(w Gi).e k mi z (Kk (w Gi) G v mi z0 J ys)) (hk:z.ok Gi U) (K1:∀ys U',J ys->ys.length<=i+1->z0.ok G U' ->K ys U'):ED (CX Gi.X) Gi.n k v Fi ys (dA Gi.me mi) U K:=by
 refine ⟨aG (au hy hi),(S.e h gi hk).bd (α:=λ V=>True) λ kv UG U1 Uw q=>(aH (l4.of q) λ j UF q=>?_)⟩;subst UF
 refine (S.e q gi Uw).bd (α:=λ V=>True) λ vv UR Uq UE q=>⟨j,rfl,K1 _ _ q.2 (ac (xV _ _ _) (bJ hy)) (q.1 _ ?_)⟩
 (try clear q);refine ck hGi λ e1 e2 e3=>?_;clear hGi
 (try clear q);cases UR with
 | no E=>exact UE
 | s A S E=>exact ((dt e1 UE):St G.me A S Uq E)
theorem I3{SS:SS}{me:Addr}{o:Obj}(T:St me A SS U E):St me A (SS.sLock (some o)) (U.put (A .heats) (.ro o (.dict (mh vi SS.heats)))) E:=
 T.put .heats trivial rfl (by intro u hu;cases u<;>first | exact .inr rfl | exact absurd rfl hu) {T.fit with}
theorem zC{SS:SS}{me:Addr}{o:Obj}(hl:SS.lock=none)(T:St me A (SS.sLock (some o)) U E):St me A SS (U.put (A .heats) (.dict (mh vi SS.heats))) E:=
 T.put (S' :=SS) .heats trivial (((ah hl rfl):some (lN SS.lock _)=_)) (by intro u hu;cases u<;>first | exact .inr rfl | exact absurd rfl hu) {T.fit with}
theorem tV{SS:SS}(hl:SS.lock=none)(T:St me A SS U E):U.get (A .heats)=some (.dict (mh vi SS.heats)):=T.has .heats (((ah hl rfl):some (lN SS.lock _)=_))
theorem Hb{i:Nat}(h:((mh vi l).map λ p=>vi p.1)[i]? =some v):∃u,(l.map (·.1))[i]? =some u/\v=vi u:=by
 unfold mh at h
 replace h:=ay▸bI▸h
 exact aH (aX.mp h) λ p h1 h2=>(bY p.1 (ae ay (ah h1 rfl)) h2.symm)
theorem Pv.dx(S:pU w)(h:Pv w G k v t sc m Q x z)(hk:z.ok G U)(c:Ru G F sc t):
  RA (CX G.X) F G.n k v ⟨.Name t tp,it,[],0⟩ [] sc x (dA G.me m) U λ ys U' =>∀b,U'.get b=none->pv G Q (.ref b) (U'.put b (.dict ys)):=by
 cases h with
 | mk a ao xs J hx hi hz h0 Xf turn fin=>
  exact .inl ⟨a,ao,xs,hx,hi,Xf _ hk,λ L2 mL=>⟨λ i ys U' =>J i ys/\ys.length<=i/\z.ok G U',⟨h0,aw _,hk⟩,λ i ys U' p=>Xf _ p.2.2,λ i u ys U' hu p=>(gg (c.st L2 mL) ⟨nJ c.nf,pX (Sj (dt (pL ..) (ah (d5 ..) (Au (G:=G) (Gi:=G.sub G.n sc.names) (z0:=z) S ⟨rfl,rfl,rfl⟩ (c.gf L2 mL) p.2.1 (by have:=(al.mp hu).1;exact ai this (ac hz (af _ _))) (turn i ys u hu p.1) p.2.2 λ ys U' h1 h2 h3=>⟨h1,h2,h3⟩))))⟩),λ ys U' p b hb=>⟨_,jx p.2.2 hb,fin ys p.1 b⟩⟩⟩
 | heats A SS E J ez hx hl h0 turn fin=>
  subst ez
  have T:St G.me A SS U E:=hk
  have hlen:SS.heats.length<=100000:=T.fit.z5
  refine .inr ⟨_,_,hx,tV hl T,λ o L2 mL=>⟨λ i ys U' =>J i ys/\ys.length<=i/\St G.me A (SS.sLock (some o)) U' E,⟨h0,aw _,I3 T⟩,λ i ys U' p=> .inl (p.2.2.has .heats rfl),λ i u ys U' hu p=>?_,λ ys U' p=>⟨p.2.2.has .heats rfl,λ b hb=>?_⟩⟩⟩
  ·refine aH (Hb hu) λ u hu' UP=>?_;subst UP
   exact gg (c.st L2 mL) ⟨nJ c.nf,pX (Sj (dt (pL ..) (ah (d5 ..) (Au (G:=G) (Gi:=G.sub G.n sc.names) (z0:=.s A (SS.sLock (some o)) E) S ⟨rfl,rfl,rfl⟩ (c.gf L2 mL) p.2.1 (by have:=(al.mp hu').1;replace this:=(ag ..)▸this;exact ai this (ac hlen (af _ _))) (turn o i ys u hu' p.1) p.2.2 λ ys U' h1 h2 h3=>⟨h1,h2,h3⟩))))⟩
  ·have T' :=(zC hl p.2.2).fresh (o:=.dict ys) hb
   refine ⟨.s A SS ((b,.dict ys)::E),T',fin ys ?_ b⟩
   have:=p.1
   unfold mh at this
   replace this:=(ag ..)▸(ag ..)▸this
   exact this
theorem tH(S:pU w){L R:Prop}(h0:Pe gens=true)(h:xZ w G UI gens sc m z Q L)(g:GF G F)(k:z.ok G U)(O:F.Ok (CX G.X) G.n)(hl:L->R)
  (hr:∀t tp it ifs,gens=[⟨.Name t tp,it,ifs,0⟩]->Ru G F sc t->qi it=true->WE (CX G.X) F G.n it (dA G.me m) U (λ x U1=>XD (CX G.X) F G.n UI t ifs sc (dA G.me m) x U1 (pv G Q))->R):R:=by
 cases gens with
 | nil=>exact hl h
 | cons g0 r=>cases g0 with
 | mk t it ifs ia=>cases r with
 | cons=>exact hl h
 | nil=>
  refine gC.of h (λ t2 e h=>(aP h.of λ hc h=>(aP (bf.mp hc) λ h1 h2=>?_))) λ V h=>hl h
  have c:=wf g O h1
  have hia:ia=0:=by
   have:=bZ.mp h0 _ (.head _)
   exact df this
  exact hr t2.1 t2.2 it ifs (ah (ll e) (ah hia rfl)) c h2 ((S.e h g k).bd (α:=λ V=>True) λ x UG U1 Uw q=>q.xd S Uw c.gf)
theorem uq(S:pU w){Q:Option Int->Zs->Prop}(h:G0 (w G) e m z Q)(g:GF G F)(k:z.ok G U):WP (CX G.X) F G.n e (dA G.me m) U (pv G Q):=by
 cases e with
 | none=>exact ⟨z,k,h⟩
 | some e=>
  exact Io ((S.e h g k).bd (α:=λ V=>True) λ v z' U' k' q=>(aH (l4.of q) λ i e q=>(bY i e ⟨z',k',q⟩)))
theorem Ac(S:pU w){f:List Value->ba}(h:(w G).l es m z (Ki f Q))(g:GF G F)(k:z.ok G U):
  WL (CX G.X) F G.n es (dA G.me m) U λ vs U1=>HN (f vs) vs.length U1 (pv G Q):=
 (S.l h g k).bd λ vs UG U1 Uw q=>⟨UG.hp G,UG.E,dt I1 Uw,q.1,λ a U' k' =>⟨UG.new a (f vs),by clear Uw q;cases UG<;>exact k',q.2 a⟩⟩
theorem xW(S:pU w)(h:Gd (Mf s) ((w G).e v m z (I6 (w G) G s m Q)))(g:GF G F)(k:z.ok G U):WE (CX G.X) F G.n (.Subscript v s p) (dA G.me m) U (pv G Q):=by
 refine aP h.of λ hs h=>(FD ?_ ((S.e h g k).bd (α:=λ V=>True) λ o UG U1 Uw q=>(S.e q g Uw).bd (α:=λ V=>True) λ b UR Uq UE q=>q.run F _ Uq UE))
 (try clear h);cases s<;>first | exact λ V V=>⟨_,rfl⟩ | exact (iP hs).elim
theorem Df(S:pU w)(h:IZ (w G) G v s m z Q)(g:GF G F)(k:z.ok G U):WE (CX G.X) F G.n (.Subscript v s p) (dA G.me m) U (pv G Q):=by
 cases s with
 | Slice lo hi st p2=>
  refine MA (λ V V=>by (try clear h);cases st<;>exact ⟨_,rfl⟩) ((S.e h g k).bd (α:=λ V=>True) λ o UG U1 Uw q=>(aH (Hd.of q) λ a UQ q=>?_));subst UQ
  exact bY a rfl ((uq S q g Uw).bd λ l UR Uq UE q=>(uq S q g UE).bd λ u Wg Ux Vt q=>(uq S q g Vt).bd λ c Wx U4 VZ q=>q.run U4 VZ)
 | _=>exact xW S h g k
theorem JX(S:pU w){e:Expr}(h:Sb w G e m z Q)(g:GF G F)(k:z.ok G U):WE (CX G.X) F G.n e (dA G.me m) U (pv G Q):=by
 cases e with
 | Name x p=>exact A_ h g k
 | Constant c j p=>exact xY h k
 | BinOp l op r p=>exact FN ((S.e h g k).bd (α:=λ V=>True) λ a UG U1 Uw q=>(S.e q g Uw).bd (α:=λ V=>True) λ b UR Uq UE q=>G5 q UE)
 | UnaryOp op x p=>exact OG ((S.e h g k).bd (α:=λ V=>True) λ a UG U1 Uw q=>J_ q Uw)
 | Compare l VC rs p=>
  cases VC with
  | nil=>exact ds h
  | cons op VC=>cases VC with
  | cons=>cases rs<;>exact ds h
  | nil=>cases rs with
  | nil=>exact ds h
  | cons r rs=>cases rs with
  | cons=>exact ds h
  | nil=>
   exact aP (Gd.of h) λ hb h=>(K' ((dh _).mp hb) ((S.e h g k).bd (α:=λ V=>True) λ a UG U1 Uw q=>(S.e q g Uw).bd (α:=λ V=>True) λ b UR Uq UE q=>rq q UE))
 | IfExp t b o p=>exact OI ((S.t h g k).bd λ c UG U1 Uw q=>Kn q (λ q=>S.e q g Uw) λ q=>S.e q g Uw)
 | Subscript v s p=>exact Df S h g k
 | Attribute o attr p=>exact Be h g k
 | Call f args Vv p=>exact Bc S h g k
 | List es p=>exact Hn (Ac S h g k)
 | Tuple es j p=>exact pB (Ac S h g k)
 | Dict ks vs p=>
  cases ks with
  | nil=>cases vs with
   | nil=>exact FL λ a ha=>⟨z.new a (.dict []),jx k ha,h a⟩
   | cons=>exact iQ.run h F U g k
  | cons k1 ks=>cases k1 with
  | none=>exact iQ.run h F U g k
  | some k1=>cases ks with
  | cons=>exact iQ.run h F U g k
  | nil=>cases vs with
  | nil=>exact iQ.run h F U g k
  | cons v vs=>cases vs with
  | cons=>exact iQ.run h F U g k
  | nil=>
   refine FK λ D hD=>(S.e (h D) g (jx k hD)).bd (α:=λ V=>True) λ kv UG U1 Uw q=>(aH (l4.of q) λ i UT q=>?_);subst UT
   exact (S.e q g Uw).bd (α:=λ V=>True) λ vv UR Uq UE q=>⟨i,rfl,q.run Uq UE⟩
 | ListComp UI gens sc p=>
  intro O
  exact aP (Gd.of h) λ h0 h=>(tH S h0 h g k O (λ h=>h.run F U g k O) λ t tp it ifs e c h2 hx=>by clear h h0;subst e;exact Ei c.ok (jY h2 _) c.nf c.st hx O)
 | DictComp kk v gens sc p=>
  intro O
  refine aP (Gd.of h) λ h0 h=>?_
  cases gens with
  | nil=>exact iQ.run h F U g k O
  | cons g0 r=>cases g0 with
  | mk t it ifs ia=>cases r with
  | cons=>exact iQ.run h F U g k O
  | nil=>
   refine gC.of h (λ t2 e h4=>?_) λ V h=>h.run F U g k O
   (try clear h);refine aP h4.of λ hc h5=>?_
   clear h h4;refine aP (bf.mp hc) λ h1 h6=>?_
   clear hc;refine aP (bf.mp h6) λ h2 h3=>?_
   have c:=wf g O h1
   clear h6;cases df (bZ.mp h0 _ (.head _):(ia==0)=true)
   clear h0;cases rE.mp h3
   cases ll e
   exact FM c.ok (jY h2 _) ((S.e h5 g k).bd (α:=λ V=>True) λ x UG U1 Uw q=>Pv.dx S q Uw c) O
 | _=>exact iQ.run h F U g k
end
end
section
section
variable{w:Gx->Wf}{G:Gx}{F:dD}{m:eY}{z:Zs}{U:AH}{C:Cx}{n:Nat}
theorem WV.bd{f:Value->Sem Bool}{m0:Str->Option Value}{Q:Bool->Zs->Prop}{Q' :Bool->AH->Prop}(h:WV C F n f a m0 U (pv G Q))(k:∀v z U,z.ok G U->Q v z->Q' v U):WV C F n f a m0 U Q' :=λ a' ea O Z s W R K=>
 h a' ea O Z s _ R λ v s U R p=>K _ _ _ R (p.casesOn λ z ok q=>k _ _ _ ok q)
theorem GM(h:JM e=true):∀env V3,isTrue e env V3=(do let v<-V3;fT e.pos;fF [v] (lS v)):=by
 cases e<;>first | exact λ V V=>rfl | exact (iP h).elim
theorem Bb(S:pU w){Q:Bool->Zs->Prop}(h:Di (w G) G l VC rs m z Q)(g:GF G F)(k:z.ok G U):WT (CX G.X) F G.n (.Compare l VC rs p) (dA G.me m) U (pv G Q):=by
 cases VC with
 | nil=>exact ds h
 | cons op VC=>cases VC with
  | nil=>cases rs with
   | nil=>exact ds h
   | cons r rs=>cases rs with
    | cons=>exact ds h
    | nil=>
     exact aP (Gd.of h) λ hb h=>(Il ((dh _).mp hb) ((S.e h g k).bd (α:=λ V=>True) λ a UG U1 Uw q=>(S.e q g Uw).bd (α:=λ V=>True) λ b UR Uq UE q=>V2.bd (rq q UE) λ c Wg Ux Vt q=>rp q Vt))
  | cons VW VC=>cases VC with
   | cons=>exact ds h
   | nil=>cases rs with
    | nil=>exact ds h
    | cons r rs=>cases rs with
     | nil=>exact ds h
     | cons r2 rs=>cases rs with
      | cons=>exact ds h
      | nil=>
       exact aP (Gd.of h) λ hb h=>(Cb ((dh _).mp hb) ((S.e h g k).bd (α:=λ V=>True) λ a UG U1 Uw q=>(S.e q g Uw).bd (α:=λ V=>True) λ b UR Uq UE q=>V2.bd (rq q UE) λ c Wg Ux Vt q=>WV.bd (rp q Vt) λ t Wx U4 VZ q=>
        Kn q (λ q=>(S.e q g VZ).bd (α:=λ V=>True) λ d z₅ U5 Z7 q=>V2.bd (rq q Z7) λ c z₆ U6 Z6 q=>rp q Z6) λ q=>⟨Wx,VZ,q⟩))
theorem De(S:pU w){Q:Bool->Zs->Prop}(h:Gd (JM e) ((w G).e e m z (BH Q)))(g:GF G F)(k:z.ok G U):WT (CX G.X) F G.n e (dA G.me m) U (pv G Q):=aP h.of λ e h=>(FA (GM e) ((S.e h g k).bd (α:=λ V=>True) λ v UG U1 Uw q=>rp q Uw))
theorem JU(S:pU w){Q:Bool->Zs->Prop}(h:RZ (w G) G e m z Q)(g:GF G F)(k:z.ok G U):WT (CX G.X) F G.n e (dA G.me m) U (pv G Q):=by
 cases e with
 | BoolOp op es p=>exact Im (S.a h g k)
 | UnaryOp op x p=>
  refine aP (Gd.of h) λ e h=>?_
  have e:=df e;subst e
  exact K8 ((S.t h g k).bd λ b UG U1 Uw q=>⟨UG,Uw,q⟩)
 | Compare l VC rs p=>exact Bb S h g k
 | _=>exact De S h g k
theorem Bd(S:pU w){Q:Bool->Zs->Prop}(h:Dk (w G) op es m z Q)(g:GF G F)(k:z.ok G U):WA (CX G.X) F G.n op es (dA G.me m) U (pv G Q):=by
 cases op with
 | And=>
  cases es with
  | nil=>exact ze ⟨z,k,h⟩
  | cons e es=>exact La ((S.t h g k).bd λ b UG U1 Uw q=>Kn q (λ q=>S.a q g Uw) λ q=>⟨UG,Uw,q⟩)
 | Or=>
  cases es with
  | nil=>exact Cf ⟨z,k,h⟩
  | cons e es=>exact OJ ((S.t h g k).bd λ b UG U1 Uw q=>Kn q (λ q=>⟨UG,Uw,q⟩) λ q=>S.a q g Uw)
theorem JW(S:pU w){Q:List Value->Zs->Prop}(h:Sa (w G) es m z Q)(g:GF G F)(k:z.ok G U):WL (CX G.X) F G.n es (dA G.me m) U (pv G Q):=by
 cases es with
 | nil=>exact oN ⟨z,k,h⟩
 | cons e es=>
  exact aP (Gd.of h) λ hp h=>(jj (kR hp) ((S.e h g k).bd (α:=λ V=>True) λ v UG U1 Uw q=>(S.l q g Uw).bd λ vs UR Uq UE q=>⟨UR,UE,q⟩))
theorem WS.mem{m m' :Str->Option Value}{Q:ig->(Str->Option Value)->AH->Prop}(h:WS C F n b m U Q)(c:∀x v,m x=some v->m' x=some v):WS C F n b m' U Q:=λ O Z s W R K=>h O Z s W (R.forget c) K
theorem W1.mem{m m' :Str->Option Value}{Q:ig->(Str->Option Value)->AH->Prop}(h:W1 C F n b m U Q)(c:∀x v,m x=some v->m' x=some v):W1 C F n b m' U Q:=λ O Z s W R K=>h O Z s W (R.forget c) K
noncomputable def OV(Q:ig->(Str->Option Value)->AH->Prop):ig->(Str->Option Value)->AH->Prop:=λ f m' U=>∃Vx,(∀x v,Vx x=some v->m' x=some v)/\Q f Vx U
theorem WS.cov{m:Str->Option Value}{Q:ig->(Str->Option Value)->AH->Prop}(h:WS C F n b m U (OV Q)):WS C F n b m U Q:=λ O Z s W R K=>
 h O Z s _ R λ f s m U R Uv=>by refine aH Uv λ Vx c q=>?_;clear Uv;exact K _ _ _ _ (R.forget c) q
theorem W1.cov{m:Str->Option Value}{Q:ig->(Str->Option Value)->AH->Prop}(h:W1 C F n b m U (OV Q)):W1 C F n b m U Q:=λ O Z s W R K=>
 h O Z s _ R λ f s m U R Uy=>by refine aH Uy λ Vx c q=>?_;clear Uy;exact K _ _ _ _ (R.forget c) q
theorem W1.mono{m:Str->Option Value}{Q Q' :ig->(Str->Option Value)->AH->Prop}(h:W1 C F n b m U Q)(k:∀f m U,Q f m U->Q' f m U):W1 C F n b m U Q' :=λ O Z s W R K=>
 h O Z s _ R λ f s m U R q=>K _ _ _ _ R (k _ _ _ q)
theorem sW.ok(h:sW me m m'):∀x v,dA me m' x=some v->dA me m x=some v:=λ x v e=>by
 refine aH (aX.mp e) λ w e1 e2=>?_
 unfold sW at h
 exact (Gh.mp h _ (fY e1)).trans (congrArg some e2)
theorem ux(h:pj e=true)(t:Option Expr)(l:Nat)(env:Env):iE e t l env=eu false:=by
 cases e<;>first | rfl | exact (iP h).elim
theorem Hx(h:er v' =v):Rj (.ret v')=.ret v:=dt h rfl
theorem rc(h:iL e=true)(env:Env):lX (e::es) env=(false,nj e env)::lX es env:=by
 cases e<;>first | rfl | exact (iP h).elim
theorem Kx(h:ts.all iL=true):lX ts env=ts.map λ t=>(false,nj t env):=by
 induction ts with
 | nil=>rfl
 | cons e es ih=>
  have h' :=bf.mp (vR▸h)
  rewrite [rc h'.1];exact ah (ih h'.2) rfl
theorem KY(S:pU w)(g:GF G F)(O:F.Ok (CX G.X) G.n):∀{vs:List Value} {m:eY} {z:Zs} {U:AH},Pn (w G) G ts vs m z Q->z.ok G U->ts.length=vs.length->
  FS (CX G.X) F G.n ts vs (dA G.me m) U λ m' U' =>vI G Q .next m' U' :=by
 induction ts with
 | nil=>
  intro vs m z U h k hl
  obtain rfl:=dR hl.symm
  exact AJ ⟨m,z,rfl,k,h⟩
 | cons t ts ih=>
  intro vs m z U h k hl
  cases vs with
  | nil=>cases hl
  | cons v vs=>
   have hl2:ts.length=vs.length:=jI hl
   (try clear hl);cases t with
   | Name x p=>
    exact aP (Gd.of h) λ hs h=>(lw (gg (eZ g O hs) (ah (d5 ..) (ih h k hl2))))
   | Subscript o i p=>exact lw (Ix ((S.e h g k).bd (α:=λ V=>True) λ ov UG U1 Uw q=>(S.e q g Uw).bd (α:=λ V=>True) λ iv UR Uq UE q=>WI.bd (q.run F _ Uq UE) λ Wg Ux Vt q=>ih q Vt hl2))
   | _=>exact ds h
theorem I4{es:List Expr}(h:es.length=2):∃a b,es=[a,b]:=by
 match es,h with
 | [a,b],_=>exact Aq a b rfl
inductive Ci(G:Gx)(vs:List Expr):List Expr->Option (Str×Str)->Prop where
 | two (x y:Str) (p q:Pos) (h1:G.nm.lookup x=some .local) (h2:G.nm.lookup y=some .local) (h3:q.line=p.line) (h4:x≠y) (h5:vs.all (rB 8)=false) (h6:vs.all (qz 8)=false):Ci G vs [.Name x p,.Name y q] (some (x,y))
 | no (a b:Expr) (h:lZ a=none):Ci G vs [a,b] none
 | four (a b c d:Expr):Ci G vs [a,b,c,d] none
 | five (a b c d e:Expr):Ci G vs [a,b,c,d,e] none
theorem PN{ts vs:List Expr}(h:v7 G ts vs=some o):Ci G vs ts o:=by
 cases ts with
 | nil=>exact (bH h).elim
 | cons a ts=>cases ts with
 | nil=>exact (bH h).elim
 | cons b ts=>cases ts with
 | nil=>
  have h:Md G (lZ a) (lZ b) vs=some o:=h
  cases e1:lZ a with
  | none=>replace h:=e1▸h;have UB:=sI h;clear h;subst UB;exact .no _ _ e1
  | some xp=>cases e2:lZ b with
   | none=>replace h:=e2▸e1▸h;exact (bH h).elim
   | some yq=>
    replace h:=e2▸e1▸h
    obtain ⟨x,p⟩:=xp
    obtain ⟨y,q⟩:=yq
    have h:(match (G.nm.lookup x==some .local&&(G.nm.lookup y==some .local&&(q.line==p.line&&(x !=y&&(!(vs.all (rB 8))&& !(vs.all (qz 8))))))) with | true=>some (some (x,y)) | false=>none)=some o:=h
    cases hc:(G.nm.lookup x==some .local&&(G.nm.lookup y==some .local&&(q.line==p.line&&(x !=y&&(!(vs.all (rB 8))&& !(vs.all (qz 8))))))) with
    | false=>replace h:=hc▸h;exact (bH h).elim
    | true=>
     replace h:=hc▸h
     simp only [dL,beq_iff_eq,bne_iff_ne,ne_eq,dh] at hc
     have UC:=sI h;clear h;subst UC
     exact ah (ll e1) (ah (ll e2) (.two x y p q hc.1 hc.2.1 hc.2.2.1 hc.2.2.2.1 hc.2.2.2.2.1 hc.2.2.2.2.2))
 | cons c ts=>cases ts with
 | nil=>exact (bH h).elim
 | cons d ts=>cases ts with
 | nil=>have UF:=sI h;clear h;subst UF;exact .four _ _ _ _
 | cons e ts=>cases ts with
 | nil=>have UP:=sI h;clear h;subst UP;exact .five _ _ _ _ _
 | cons=>exact (bH h).elim
theorem Tk{α:Type}{f:Expr->Option α}(h:f a=none):([a,b].filterMap f).length≠2:=by
 refine ah dO (ah h (ah dO ?_))
 cases f b<;>exact λ h=>nomatch h
theorem wq(x:Str)(p:Pos):(Expr.Name x p).pos=p:=rfl
theorem xU(h:Ci G es ts o)(hl:es.length=ts.length)(hp:es.all iL=true)(g:GF G F):nh [.Tuple ts k p] (.Tuple es j q) F.env=eu (o.map λ xy=>[xy.1,xy.2]):=by
 cases h with
 | four=>rfl
 | five=>rfl
 | no a b h=>
  (try clear hp);refine fM (I4 hl) λ u v UQ=>?_;subst UQ
  unfold nh
  dsimp only [bM,j1]
  refine Mw λ V=>Mw λ V=>if_pos (Bool.or_eq_true_iff.mpr (.inl (bne_iff_ne.mpr (Tk ?_))))
  (try clear hl);cases a<;>first | rfl | exact (hV h).elim
 | two x y p1 p2 h1 h2 h3 h4 h5 h6=>
  refine fM (I4 hl) λ u v UT=>?_;subst UT
  have k1:=g.kind _ _ h1 (by decide)
  have k2:=g.kind _ _ h2 (by decide)
  unfold nh
  dsimp only [bM,j1]
  refine (if_neg ?_).trans ((if_neg ?_).trans ((if_neg ?_).trans ((if_neg ?_).trans ((if_neg ?_).trans ?_))))
  ·refine ah g.blk ?_;decide
  ·intro h
   refine aH (dK.mp h) λ e he q=>?_
   have:=bZ.mp hp e he
   cases e with
   | Starred=>exact (iP this).elim
   | _=>exact (iP q).elim
  ·simp only [dO,CR,k1,k2,IQ,d8,CL,wq,h3,beq_self_eq_true,LK,if_true,bM,j1]
   have:([x,y].eraseDups).length=2:=ah List.eraseDups_cons (ah cO (ah (beq_false_of_ne λ e=>h4 e.symm) rfl))
   refine ah this ?_
   decide
  ·exact ah h5 c9
  ·exact ah h6 c9
  ·simp only [dO,CR,k1,k2,IQ,d8,CL,wq,h3,beq_self_eq_true,LK,if_true]
theorem Ec.of{vs:List Value}(h:Ec x y m Q vs z):∃vx vy,vs=[vx,vy]/\Q .next (put (put m y vy) x vx) z:=by
 cases vs with
 | nil=>exact ds h
 | cons v vs=>cases vs with
  | nil=>exact ds h
  | cons u vs=>cases vs with
   | nil=>exact ib _ _ rfl h
   | cons=>exact ds h
theorem Dd(S:pU w)(h:IY (w G) G ts es m z Q)(g:GF G F)(k0:z.ok G U):W1 (CX G.X) F G.n (.Assign [.Tuple ts k p] (.Tuple es j q) pos) (dA G.me m) U (vI G Q):=by
 intro O
 refine aP (Gd.of h) λ hc h=>(aP (bf.mp hc) λ hl hp=>?_)
 (try clear hc);refine aP (bf.mp hp) λ UO hp2=>?_
 have hl:=df hl
 refine gC.of h (λ o ht h=>?_) λ V h=>h.elim
 have K:=PN ht
 have We:=xU (k:=k) (j:=j) (p:=p) (q:=q) K hl UO g
 refine gC.of h (λ xy e h3=>?_) λ e h3=>?_
 ·clear K h ht;subst e
  refine aP (Gd.of h3) λ hs h4=>(aP (bf.mp hs) λ s1 s2=>(AK rfl We (eZ g O s1) (eZ g O s2) (sA ((S.l h4 g k0).bd λ vs UG U1 Uw q=>(cu q.of λ vx vy U9 q=>?_))) O));subst U9
  exact ⟨aT rfl,λ a ha=>⟨a,vx,vy,rfl,e0 (AH.get_put_self _ _ _) (by intro _ _ h;cases h),(ah (d5 ..) (ah (d5 ..) ⟨_,UG,rfl,zQ Uw ha,q⟩))⟩⟩
 ·clear h hl hp ht;subst e
  have h5:ts.length<=10000000:=by clear h h3 hl hp2 We;cases K<;>exact aT rfl
  refine FU rfl We (Kx hp2) (sA ((S.l h3 g k0).bd λ vs UG U1 Uw q=>(aP (Gd.of q) λ hv q=>?_))) O
  have hv:=df hv
  exact ⟨hv▸h5,λ a ha=>⟨a,vs,rfl,e0 (AH.get_put_self _ _ _) (by intro _ _ h;cases h),hv,KY S g O q (zQ Uw ha) hv.symm⟩⟩
theorem IA{m:Str->Option Value}(hs:∀env x,da iter env x=eu x)(S:Stores F t)
  (h:WE C F n iter m U λ x U1=>(∃(a:Addr) (ao:ba) (xs:List Value) (J:Nat->(Str->Option Value)->AH->Prop),x=.ref a/\fy ao=some xs/\J 0 m U1/\(∀i m U,J i m U->U.sees a ao)/\
   (∀i v m U,xs[i]? =some v->J i m U->WS C F n body (fA m t v) U (rk Q (J (i+1))))/\(∀m U,J xs.length m U->Q .next m U))\/
   ∃(d:Addr) (kvs:List (Int×Value)),x=.ref d/\U1.get d=some (.dict kvs)/\∀o,∃J:Nat->(Str->Option Value)->AH->Prop,J 0 m (U1.put d (.ro o (.dict kvs)))/\(∀i m U,J i m U->U.get d=some (.ro o (.dict kvs)))/\
   (∀i k m U,(kvs.map (·.1))[i]? =some k->J i m U->WS C F n body (fA m t (vi k)) U λ f m U=>f=.next/\J (i+1) m U)/\(∀m U,J kvs.length m U->Q .next m (U.put d (.dict kvs)))):
  W1 C F n (.For (.Name t tp) iter body [] pos) m U Q:=λ O Z s W R K=>by
 refine wpAny_For (h O Z s _ R λ x s₁ U1 R₁ p=>?_) (hs _)
 obtain ⟨a,ao,xs,J,e,hi,h0,Vz,Vn,Vu⟩ | ⟨d,kvs,e,hd,hh⟩:=p
 ·exact ah (eI e) (wK (iter:=iter) (pos:=pos) O S Q J R₁ hi h0 Vz Vn Vu λ f s' m' U' R' q=>(K _ _ _ _ R' q))
 ·refine ah (eI e) (aS (R₁.lock O hd) λ o R₂=>(pI (hh o) λ J h0 Vz Vn Vu=>(wK (iter:=iter) (pos:=pos) (ao:=.ro o (.dict kvs)) (xs:=kvs.map λ p=>vi p.1) O S (λ f m U=>f=.next/\J kvs.length m U) J R₂ rfl h0 (λ i m U h=> .inl (Vz i m U h))
   (λ i v m U hx hJ=>?_) (λ m U h=>⟨rfl,by simpa using h⟩) λ f s' m' U' R' UM=>by refine aP UM λ q1 q2=>?_;clear UM;exact q1▸(K _ _ _ _ (R'.unlock O (Vz _ _ _ q2)) (Vu _ _ q2)))))
  replace hx:=ay▸hx
  refine aH (aX.mp hx) λ p hp UW=>?_;subst UW
  exact (Vn i p.1 m U (ae ay (ah hp rfl)) hJ).mono λ f m U UV=>by refine aP UV λ q1 q2=>?_;clear UV;exact by subst q1;exact q2
theorem zN{m' :Str->Option Value}(h:∀x v,dA me m x=some v->m' x=some v):∀x u,dA me (put m t v) x=some u->fA m' t v x=some u:=λ x u e=>by
 replace e:=dc (d5 ..)▸e
 unfold fA at e⊢
 refine eC (λ e' =>?_) λ e' =>?_
 ·replace e:=if_pos e' ▸e;exact e
 ·replace e:=if_neg e' ▸e;exact h _ _ e
theorem IF.ok(S:pU w)(hq:IF (w G) G t body m Q x z)(g:GF G F)(k:z.ok G U):
  (∃(a:Addr) (ao:ba) (xs:List Value) (J:Nat->(Str->Option Value)->AH->Prop),x=.ref a/\fy ao=some xs/\J 0 (dA G.me m) U/\(∀i m U,J i m U->U.sees a ao)/\
   (∀i v m U,xs[i]? =some v->J i m U->WS (CX G.X) F G.n body (fA m t v) U (rk (OV (vI G Q)) (J (i+1))))/\(∀m U,J xs.length m U->OV (vI G Q) .next m U))\/
  ∃(d:Addr) (kvs:List (Int×Value)),x=.ref d/\U.get d=some (.dict kvs)/\∀o,∃J:Nat->(Str->Option Value)->AH->Prop,J 0 (dA G.me m) (U.put d (.ro o (.dict kvs)))/\(∀i m U,J i m U->U.get d=some (.ro o (.dict kvs)))/\
   (∀i k m U,(kvs.map (·.1))[i]? =some k->J i m U->WS (CX G.X) F G.n body (fA m t (vi k)) U λ f m U=>f=.next/\J (i+1) m U)/\(∀m U,J kvs.length m U->OV (vI G Q) .next m (U.put d (.dict kvs))):=by
 cases hq with
 | mk a ao xs ι mf zf J i0 hx hi h0 hm hz Xf turn fin=>
  refine .inl ⟨a,ao,xs,λ i m' U' =>∃j,J i j/\(∀x v,dA G.me (mf j) x=some v->m' x=some v)/\(zf j).ok G U',hx,hi,⟨i0,h0,hm.ok,hz _ k⟩,λ i m' U' p=>?_,λ i v m' U' hv p=>?_,λ m' U' p=>?_⟩
  ·refine cX p λ j hj V hk=>?_;clear p;exact Xf i j U' hj hk
  ·refine cX p λ j hj hc hk=>?_;clear p
   refine WS.mem ((S.s (turn i j v hv hj ⟨_,hk⟩) g hk).bd λ f Vx UR Uq UE q=>?_) (zN hc)
   cases f with
   | next=>obtain ⟨j',hj',Vo,XU⟩:=q;exact fV j' hj' Vo.ok (XU _ UE)
   | ret r=>exact ⟨_,λ V V h=>h,Vx,UR,rfl,UE,q⟩
   | _=>exact q.elim
  ·refine cX p λ j hj hc hk=>?_;clear p
   exact ⟨_,hc,mf j,zf j,rfl,hk,fin j hj ⟨_,hk⟩⟩
 | heats A SS E ι mf J i0 ez hx hl h0 hm turn fin=>
  subst ez
  have T:St G.me A SS U E:=k
  refine .inr ⟨_,_,hx,tV hl T,λ o=>⟨λ i m' U' =>∃j,J i j/\(∀x v,dA G.me (mf j) x=some v->m' x=some v)/\St G.me A (SS.sLock (some o)) U' E,⟨i0,h0,hm.ok,I3 T⟩,λ i m' U' p=>?_,λ i u m' U' hu p=>?_,λ m' U' p=>?_⟩⟩
  ·refine cX p λ j hj V hk=>?_;clear p;exact hk.has .heats rfl
  ·refine cX p λ j hj hc hk=>?_;clear p
   refine WS.mem ((S.s (z:=.s A (SS.sLock (some o)) E) (turn o i j u (by replace hu:=(wN ..)▸hu;exact hu) hj) g hk).bd λ f Vx UR Uq UE q=>?_) (zN hc)
   cases f with
   | next=>obtain ⟨j',hj',Vo,XU⟩:=q;exact ⟨rfl,j',hj',Vo.ok,XU _ UE⟩
   | _=>exact q.elim
  ·refine cX p λ j hj hc hk=>?_;clear p
   refine ⟨_,hc,mf j,.s A SS E,rfl,zC hl hk,fin j ?_⟩
   unfold mh at hj
   replace hj:=(ag ..)▸hj
   exact hj
theorem vd.ok(S:pU w)(h:vd (w G) G t body m z Q)(g:GF G F)(k:z.ok G U):W1 (CX G.X) F G.n (.While t body [] pos) (dA G.me m) U (vI G Q):=by
 obtain ⟨ι,mf,zf,I,μ,i0,h0,hm,hz,turn⟩:=h
 refine W1.mem (m:=dA G.me (mf i0)) (FT (λ n m' U' =>∃j,I j/\μ j=n/\dA G.me (mf j)=m' /\(zf j).ok G U') (μ i0) ⟨i0,h0,rfl,rfl,hz _ k⟩ λ n m' U' p=>(pI p λ j hj U8 U7 hk=>?_)) (hm.ok);clear p;subst U8;subst U7
 refine (S.t (turn j hj ⟨_,hk⟩) g hk).bd λ b UG U1 Uw q=>Kn q (λ q=>(WS.cov ((S.s q g Uw).bd λ f Vx UR Uq UE q=>?_))) λ q=>FB ⟨mf j,UG,rfl,Uw,q⟩
 cases f with
 | next=>obtain ⟨j',⟨hj',hμ⟩,Vo,XU⟩:=q;exact ⟨dA G.me (mf j'),Vo.ok,μ j',hμ,j',hj',rfl,rfl,XU _ UE⟩
 | ret r=>exact ⟨_,λ V V h=>h,Vx,UR,rfl,UE,q⟩
 | _=>exact q.elim
theorem uG(h:pv G (He x m Q) v U):vI G Q .next (fA (dA G.me m) x v) U:=by
 obtain ⟨z,k,q⟩:=h
 exact ⟨put m x v,z,(d5 _ _ _ _).symm,k,q⟩
theorem wc(S:pU w)(ho:fx G x=true)(h:Els (pj e) ((w G).e e m z (He x m Q)) (l6 G (.Assign [.Name x p] e pos) m z Q))(g:GF G F)(k:z.ok G U):W1 (CX G.X) F G.n (.Assign [.Name x p] e pos) (dA G.me m) U (vI G Q):=λ O=>
 Els.of h (λ hn h=>qs (ux hn _ _ _) (eZ g O ho) ((S.e h g k).mono λ v U=>uG) O) λ V h=>h.run F U g k O
theorem Bf(S:pU w)(ho:fx G x=true)(h:Do w G e m z (He x m Q) (l6 G (.Assign [.Name x p] e pos) m z Q))(g:GF G F)(k:z.ok G U):W1 (CX G.X) F G.n (.Assign [.Name x p] e pos) (dA G.me m) U (vI G Q):=by
 intro O
 cases e with
 | ListComp UI gens sc p2=>
  refine aP (Gd.of h) λ h0 h=>(tH S h0 h g k O (λ h=>h.run F U g k O) λ t tp it ifs e c h2 hx=>?_)
  clear h h0;subst e
  cases hb:(F.env.blockKind==.function&&F.env.kindOf x==some .local&&p.line==p2.line&& !(sc.names.any λ(n,k)=>n==x&&(k==.local || k==.cell))) with
  | true=>exact Iz (congrArg eu hb) (eZ g O ho) c.ok (jY h2 _) c.nf c.st (hx.mono λ y U1 q=>q.mono λ v U=>uG) O
  | false=>exact qs (congrArg eu hb) (eZ g O ho) ((Ei c.ok (jY h2 _) c.nf c.st hx).mono λ v U=>uG) O
 | _=>exact wc S ho h g k O
theorem jt{Q:Zs->Prop}(T:St G.me A S U E)(h:Q (.s A S E)):Pz G Q U:=⟨.s A S E,T,h⟩
theorem rM(S' :SS){Q:AH->Prop}(T:St me A S U E)(hS:j5 (fields A S) attr v=fields A S')(h4:∀u,u≠ .ns->(fS A S' u=none\/fS A S' u=fS A S u))(Z:nS S')(h:∀U',St me A S' U' E->Q U'):NS attr v A S U Q:=h _ (T.ns S' hS h4 Z)
theorem Ks{Q:Zs->Prop}(h:fld attr v S (λ S=>Q (.s A S E)) (ON G attr v A S E Q))(T:St G.me A S U E):NS attr v A S U (Pz G Q):=by
 have h4:∀S' :SS,S'.known=S.known->S'.heights=S.heights->S'.causes=S.causes->S'.row=S.row->S'.begins=S.begins->S'.liked=S.liked->S'.rows=S.rows->S'.watch=S.watch->S'.heats=S.heats->S'.log=S.log->S'.blamed=S.blamed->S'.lock=S.lock->∀u,u≠tg.ns->(fS A S' u=none\/fS A S' u=fS A S u):=λ S' e1 e2 e3 e4 e5 e6 e7 e8 e9 e10 e11 e12 u hu=>by
  right
  cases u<;>first | exact absurd rfl hu | rfl | (unfold fS;simp only [e1,e2,e3,e4,e5,e6,e7,e8,e9,e10,e11,e12])
 refine Els.of h (λ e h=>?_) λ V h=>Els.of h (λ e h=>?_) λ V h=>Els.of h (λ e h=>?_) λ V h=>Els.of h (λ e h=>?_) λ V h=>Els.of h (λ e h=>?_) λ V h=>h.run U T
 ·(try clear h);have e:=df e;subst e
  refine aH (tR.of h) λ i Ve h1=>?_;subst Ve
  exact rM (S.sSeen i) T rfl (h4 _ rfl rfl rfl rfl rfl rfl rfl rfl rfl rfl rfl rfl) {T.fit with} λ U' T' =>jt T' h1
 ·(try clear h);have e:=df e;subst e
  refine aH (pz.of h) λ i Vk h1=>?_;subst Vk
  exact rM (S.sRefuted i) T rfl (h4 _ rfl rfl rfl rfl rfl rfl rfl rfl rfl rfl rfl rfl) {T.fit with} λ U' T' =>jt T' h1
 ·(try clear h);have e:=df e;subst e
  refine aH (tR.of h) λ i Vg h1=>?_;subst Vg
  exact rM (S.sClashes i) T rfl (h4 _ rfl rfl rfl rfl rfl rfl rfl rfl rfl rfl rfl rfl) {T.fit with} λ U' T' =>jt T' h1
 ·(try clear h);have e:=df e;subst e
  refine aH (l4.of h) λ i Vs h1=>?_;subst Vs
  exact rM (S.sGain i) T rfl (h4 _ rfl rfl rfl rfl rfl rfl rfl rfl rfl rfl rfl rfl) {T.fit with} λ U' T' =>jt T' h1
 ·(try clear h);have e:=df e;subst e
  refine aH (l4.of h) λ i Vr h1=>?_;subst Vr
  exact rM (S.sLimit i) T rfl (h4 _ rfl rfl rfl rfl rfl rfl rfl rfl rfl rfl rfl rfl) {T.fit with} λ U' T' =>jt T' h1
theorem Dm(S:pU w)(h:I0 w G t e m z Q (l6 G (.Assign [t] e pos) m z Q))(g:GF G F)(k:z.ok G U):W1 (CX G.X) F G.n (.Assign [t] e pos) (dA G.me m) U (vI G Q):=by
 cases t with
 | Name x p=>
  exact aP (Gd.of h) λ ho h=>(Bf S ho h g k)
 | Attribute o attr p=>
  refine Els.of h (λ hc h2=>?_) λ V h=>h.run F U g k
  (try clear h);refine aP (bf.mp hc) λ hm h3=>?_
  clear hc;refine cu (uI (G:=G) hm) λ x p' Vq hx=>?_;subst Vq
  refine Iy (by clear h2;cases e<;>rfl) (RX _ (fk.mp h3)) ((S.e h2 g k).bd (α:=λ V=>True) λ v UG U1 Uw q=>(pH (kS.of q) λ A SS1 E VL q=>?_));subst VL
  refine OE (show St G.me A SS1 U1 E from Uw) hx ?_
  have:=Ks (Q:=kN m Q) q Uw
  obtain ⟨UR,UE,q⟩:=this
  exact ⟨m,UR,rfl,UE,q⟩
 | Subscript o i p=>
  exact aP (Gd.of h) λ hn h=>(zg (ux hn _ _ _) ((S.e h g k).bd (α:=λ V=>True) λ v UG U1 Uw q=>(S.e q g Uw).bd (α:=λ V=>True) λ ov UR Uq UE q=>(S.e q g UE).bd (α:=λ V=>True) λ iv Wg Ux Vt q=>WI.bd (q.run F _ Ux Vt) λ Wx U4 VZ q=>⟨m,Wx,rfl,VZ,q⟩))
 | Tuple ts j p=>cases e with
  | Tuple es j p=>exact Dd S h g k
  | _=>exact l6.run h F U g k
 | _=>exact ds h
theorem zH(S:pU w)(h:Mh w G b m z Q)(g:GF G F)(k:z.ok G U):W1 (CX G.X) F G.n b (dA G.me m) U (vI G Q):=by
 cases b with
 | Return e p=>
  refine gC.of h (λ e he h=>?_) λ he h=>?_
  ·subst he;exact ud ((S.e h g k).bd (α:=λ V=>True) λ v UG U1 Uw q=>λ v' e=>⟨m,UG,rfl,Uw,ah (Hx e) q⟩)
  ·subst he;exact zh ⟨m,z,rfl,k,h⟩
 | If t b o p=>exact OK ((S.t h g k).bd λ c UG U1 Uw q=>Kn q (λ q=>S.s q g Uw) λ q=>S.s q g Uw)
 | Expr e p=>
  exact aP (Gd.of h) λ hn h=>(IB g.inter (ux hn _ _ _) ((S.e h g k).bd (α:=λ V=>True) λ v UG U1 Uw q=>⟨m,UG,rfl,Uw,q⟩))
 | Assign ts e p=>cases ts with
  | nil=>exact ds h
  | cons t ts=>cases ts with
   | nil=>exact Dm S h g k
   | cons=>exact ds h
 | For t it body o p=>
  exact gC.of h (λ x e h=>(aP h.of λ hc h=>(aP (bf.mp hc) λ h0 hc=>(aP (bf.mp hc) λ h1 h2=>(ah (ll e) (ah (rE.mp h0) (λ O=>W1.cov (IA (jY h2) (eZ g O h1) ((S.e h g k).bd (α:=λ V=>True) λ y UG U1 Uw q=>IF.ok S q g Uw)) O))))))) λ V h=>h.run F U g k
 | While t body o p=>
  exact aP (Gd.of h) λ h0 h=>(ah (rE.mp h0) (vd.ok S h g k))
 | _=>exact l6.run h F U g k
theorem JV(S:pU w)(h:R_ w G bs m z Q)(g:GF G F)(k:z.ok G U):WS (CX G.X) F G.n bs (dA G.me m) U (vI G Q):=by
 cases bs with
 | nil=>exact FB ⟨m,z,rfl,k,h⟩
 | cons b r=>
  refine pT (W1.mono (zH S h g k) λ f m' U' q=>?_)
  obtain ⟨m1,UG,rfl,Uw,q⟩:=q
  cases f with
  | next=>exact S.s q g Uw
  | _=>exact ⟨m1,UG,rfl,Uw,q⟩
end
theorem jH:∀k,pU (Wk k)
 | 0=>⟨λ h=>h.elim,λ h=>h.elim,λ h=>h.elim,λ h=>h.elim,λ h=>h.elim⟩
 | k+1=>⟨JX (jH k),JU (jH k),Bd (jH k),JW (jH k),JV (jH k)⟩
end
section
noncomputable def DB:ig->Value
 | .ret v=>v
 | _=> .none
inductive Po(G:Gx)(Q:VQ)(fl:ig)(m:eY)(z:Zs):Prop where
 | mk (z' :Zs) (s:jm G z z') (q:(LU G z')->Q (DB fl) z')
theorem h_(q:Q (DB fl) z):Po G Q fl m z:=⟨z,λ V h=>h,λ V=>q⟩
section
variable{G:Gx}{A:Ad}{S S' :SS}{E E' :List (Addr×ba)}{p p' :Addr×ba}
theorem d0:jm G z z:=λ V h=>h
theorem nU:jm G (.s A S (p::E)) (.s A S E):=λ V h=>St.subl h (bC _ _)
theorem Dc:jm G (.s A S (p::p' ::E)) (.s A S E):=λ V h=>St.subl h ((bC _ _).trans (bC _ _))
theorem A9(e:S=S'):jm G (.s A S E) (.s A S' E):=λ U k=>e▸k
theorem jm.tr(h:jm G z z')(k:jm G z' z''):jm G z z'' :=λ U q=>k U (h U q)
theorem lg(s:jm G z (.s A S E))(q:nS S->Q (DB fl) (.s A S E)):Po G Q fl m z:=⟨_,s,λ Uv=>by obtain ⟨U,k⟩:=Uv;exact q (St.fit (show St G.me A S U E from k))⟩
theorem l_(h:E'.Sublist E):jm G (.s A S E) (.s A S E'):=λ V k=>St.subl k h
end
theorem G8:∀{m:Str->Option Value},x∉l.map (·.1)->BB l m x=m x:=by
 induction l with
 | nil=>exact λ V=>rfl
 | cons p r ih=>exact λ h=>(ih λ q=>h (.tail _ q)).trans (if_neg λ e=>h (by exact ah e (.head _)))
theorem uC:∀{m:Str->Option Value},(l.map (·.1)).Nodup->l.lookup x=some v->BB l m x=some v:=by
 induction l with
 | nil=>exact λ V h=>nomatch h
 | cons p r ih=>
  intro m hn h
  refine aP (aY.mp hn) λ h1 h2=>?_
  rewrite [bv] at h
  cases e:x==p.1 with
  | true=>
   (try clear ih);have e:=df e;subst e
   replace h:=e▸h
   exact (G8 h1).trans ((if_pos rfl).trans h)
  | false=>replace h:=e▸h;exact ih h2 h
theorem rF(me:Addr):∀(names:List Str) (mvs:List MV) (x:Str),(names.zip (mvs.map (MV.val me))).lookup x=((names.zip mvs).lookup x).map (MV.val me)
 | [],_,_=>rfl
 | _::_,[],_=>rfl
 | y::ns,w::ws,x=>by
  refine ah aU (ah dY (ah dY (ae bv (ah bv ?_))))
  cases x==y with
  | true=>rfl
  | false=>exact rF me ns ws x
theorem rG:∀(names:List Str) (vs:List Value),((names.zip vs).map (·.1)).Sublist names
 | [],_=> .slnil
 | _::_,[]=>List.nil_sublist _
 | y::ns,w::ws=>(rG ns ws).cons_cons y
noncomputable def EG(names:List Str)(scope:Scope):Bool:=decide names.Nodup&&names.all (λ x=>kU x&&(scope.names.lookup x==some .local || scope.names.lookup x==some .cell))&&decide ((dz 0 scope.names []).map (·.1)).Nodup&&scope.names.all (λ x=>x.2 !=.free)&& !scope.isCoroutine&& !scope.isGenerator&&scope.kind==.function
theorem enter{dV kV Xe vI Vj ct oc:Value}{an od:Option Addr}{Yp:Array (Option Value)}{Q:VQ}(hn:G.n=n+1)(names:List Str)(mvs:List MV)
  (ho:(CX G.X).K.lookup f=some ⟨oc,od,.func (TJ name qual params body scope dV kV Xe vI an Vj ct),Yp⟩) (VU:RO (CX G.X).K Vj qual=true)
  (hlen:mvs.length=names.length)
  (VH:∀vs:List Value,vs.length=names.length->IL (TJ name qual params body scope dV kV Xe vI an Vj ct) ⟨vs,[]⟩=eu (names.zip vs))
  (Wi:EG names scope=true) (hw:(Wk 99 (G.sub n scope.names)).s body (names.zip mvs) z (Po G Q)):la G f (mvs.map (MV.val G.me)) z Q:=⟨λ U k=>by
 unfold EG at Wi
 simp only [dL,decide_eq_true_eq,bZ,sT,beq_iff_eq,bne_iff_ne,ne_eq,dh] at Wi
 refine aP Wi λ Uy c7=>?_;clear Wi;refine aP Uy λ UC c6=>?_;clear Uy;obtain ⟨⟨⟨⟨c1,c2⟩,c3⟩,c4⟩,c5⟩:=UC
 refine ah hn (FQ (names:=names) ho VU (ae (ag ..) hlen) VH c2 c3 c4 c5 c6 c7 λ b=>?_)
 have g:GF (G.sub n scope.names) (Fn b qual scope f Vj):=⟨λ x k e V=>e,λ x e=>absurd rfl (c4 _ (fY e)),((ah c7 rfl):(if scope.kind.isAnnotationScope=true then _ else scope.kind)=_),((ah c7 rfl):(scope.kind==.module&&_)=false)⟩
 refine WS.mem (((jH 99).s hw g k).bd (G:=G.sub n scope.names) λ fl m1 UG U1 Uw q=>?_) λ x v e=>uC ((rG _ _).nodup c1) (ae (rF ..) e)
 obtain ⟨UR,s₂,q⟩:=q
 have q:=q ⟨_,s₂ _ Uw⟩
 refine ⟨UR,s₂ _ Uw,?_⟩
 cases fl<;>exact q⟩
section
variable{G:Gx}{A:Ad}{S:SS}{E E' :List (Addr×ba)}{z:Zs}{Q:VQ}
theorem LO(h:-1000<=l/\l<=1000):0<=(l.natAbs:Int)/\(l.natAbs:Int)<=1000:=Oc h
theorem mM(k:Zs.ok G (.s A S E) U):nS S:=St.fit (show St G.me A S U E from k)
theorem kT(t:tg)(h:fS A S t=some o)(hr:∀ob v,o≠ .ro ob v):∀U,Zs.ok G (.s A S E) U->U.rd (A t)=some o:=λ U (T:St G.me A S U E)=>T.rd t h hr
theorem Af(h:∀U,z.ok G U->U.rd a=some (.list xs)):IsL G (.ref a) z:=⟨λ U k=>⟨_,_,rfl,h U k⟩⟩
theorem Hf(h:∀U,z.ok G U->U.rd a=some (.dict xs)):Ry G (.ref a) z:=⟨λ U k=>⟨_,_,rfl,h U k⟩⟩
theorem yl(h:(a,o)∈E)(hr:∀ob v,o≠ .ro ob v):∀U,Zs.ok G (.s A S E) U->U.rd a=some o:=λ U (T:St G.me A S U E)=>e0 (T.at_ h) hr
theorem yk:∀U,Zs.ok G (.s A S E) U->U.rd (A .row)=some (.list (S.row.map vi)):=kT .row rfl (by intro _ _ h;cases h)
theorem nB:∀U,Zs.ok G (.s A S E) U->U.rd (A .begins)=some (.list (S.begins.map vn)):=kT .begins rfl (by intro _ _ h;cases h)
theorem mJ:∀U,Zs.ok G (.s A S E) U->U.rd (A .known)=some (.dict (mh vb S.known)):=kT .known rfl (by intro _ _ h;cases h)
theorem Ib{Q:Zs->Prop}(h0:0<=k/\k<=1000)(q:Q (.s A (S.sKnown (ins S.known k b)) E)):FX G (.ref (A .known)) (vi k) (.bool b) (.s A S E) Q:=⟨λ F m U (T:St G.me A S U E)=>C5 T h0 λ U' T' =>jt T' q⟩
theorem B9{Q:Zs->Prop}(h0:0<=k/\k<=1000)(q:Q (.s A (S.sHeights (ins S.heights k b)) E)):FX G (.ref (A .heights)) (vi k) (vn b) (.s A S E) Q:=⟨λ F m U (T:St G.me A S U E)=>xO T h0 λ U' T' =>jt T' q⟩
theorem Fg{Q:Zs->Prop}(h0:0<=k/\k<=1000)(q:Q (.s A (S.sCauses (ins S.causes k b)) E)):FX G (.ref (A .causes)) (vi k) (vo b) (.s A S E) Q:=⟨λ F m U (T:St G.me A S U E)=>AX T h0 λ U' T' =>jt T' q⟩
theorem Ia{Q:Zs->Prop}(h0:0<=k/\k<=1000)(q:Q (.s A (S.sLiked (ins S.liked k b)) E)):FX G (.ref (A .liked)) (vi k) (.bool b) (.s A S E) Q:=⟨λ F m U (T:St G.me A S U E)=>C4 T h0 λ U' T' =>jt T' q⟩
theorem Fh(hl:-1000<=l/\l<=1000)(hz:S.row.length<100000)(q:Q .none (.s A (S.sRow (S.row++[l])) E)):nX G (.builtin "list.append") [.ref (A .row),vi l] (.s A S E) Q:=⟨λ F m U (T:St G.me A S U E)=>Ih T hl hz λ U' T' =>jt T' q⟩
theorem kd(q:Q (vn S.row.length) (.s A S E)):nX G (.builtin "len") [.ref (A .row)] (.s A S E) Q:=⟨λ F m U (T:St G.me A S U E)=>G' T (jt T q)⟩
theorem iA(q:Q (vn S.begins.length) (.s A S E)):nX G (.builtin "len") [.ref (A .begins)] (.s A S E) Q:=⟨λ F m U (T:St G.me A S U E)=>yC T (jt T q)⟩
theorem ub(q:Q (vn S.rows.length) (.s A S E)):nX G (.builtin "len") [.ref (A .rows)] (.s A S E) Q:=⟨λ F m U (T:St G.me A S U E)=>DX T (jt T q)⟩
theorem jA(h:∀U,z.ok G U->U.rd a=some (.list xs))(hk:xs.length=k)(hz:k<=1000000)(q:Q (vn k) z):nX G (.builtin "len") [.ref a] z Q:=⟨λ F m U k=>EX (h U k) (ac (aC hk) (ac hz (af _ _))) ⟨z,k,ah hk q⟩⟩
theorem w6(h:S.begins[k]? =some b)(q:Q (vn b) (.s A S E)):FY G (.ref (A .begins)) (vn k) (.s A S E) Q:=⟨λ F m U (T:St G.me A S U E)=>yJ T h (jt T q)⟩
theorem sv(h:S.row[k]? =some l)(q:Q (vi l) (.s A S E)):FY G (.ref (A .row)) (vn k) (.s A S E) Q:=⟨λ F m U (T:St G.me A S U E)=>Hr T h (jt T q)⟩
theorem nP(h:k<S.rows.length)(q:Q (.ref (A (.rowL k))) (.s A S E)):FY G (.ref (A .rows)) (vn k) (.s A S E) Q:=⟨λ F m U (T:St G.me A S U E)=>En T h (jt T q)⟩
theorem jc(h:S.rows[k]? =some r)(hz:r.length<=1000000)(hj:r[j]? =some l)(q:Q (vi l) (.s A S E)):FY G (.ref (A (.rowL k))) (vn j) (.s A S E) Q:=⟨λ F m U (T:St G.me A S U E)=>Eo T h (bG _) hz (ah (dT ..) hj) (jt T q)⟩
theorem nN{Q:Zs->Prop}(h:S.rows[k]? =some r)(hz:r.length<=1000000)(hj:j<r.length)(q:Q (.s A (S.sRows (S.rows.set k (r.set j l))) E)):FX G (.ref (A (.rowL k))) (vn j) (vi l) (.s A S E) Q:=
 ⟨λ F m U (T:St G.me A S U E)=>Ds T h (bG _) hz (bQ.mpr hj) λ R U' e1 V T' =>by replace e1:=(dT ..)▸e1;subst e1;exact jt T' q⟩
theorem ke(h:∀U,z.ok G U->U.rd a=some (.list xs))(hz:xs.length<=1000000)(hj:xs[j]? =some v)(q:Q v z):FY G (.ref a) (vn j) z Q:=⟨λ F m U k=>mU (h U k) (bG _) (ac hz (af _ _)) (ah (dT ..) hj) ⟨z,k,q⟩⟩
theorem jN(h:lk S.heights k=some b)(q:Q (vn b) (.s A S E)):FY G (.ref (A .heights)) (vi k) (.s A S E) Q:=⟨λ F m U (T:St G.me A S U E)=>wJ T h (jt T q)⟩
theorem E5(hr:S.row=r++[l])(q:Q (vi l) (.s A (S.sRow r) E)):nX G (.builtin "list.pop") [.ref (A .row)] (.s A S E) Q:=⟨λ F m U (T:St G.me A S U E)=>GV T hr λ U' T' =>jt T' q⟩
theorem y5(hk:lk S.known k=some b)(q:Q (.bool b) (.s A (S.sKnown (del S.known k)) E)):nX G (.builtin "dict.pop") [.ref (A .known),vi k] (.s A S E) Q:=⟨λ F m U (T:St G.me A S U E)=>Bt T hk λ U' T' =>jt T' q⟩
theorem J1(o:Option Bool):(o.map vb).getD .none=xP o:=by cases o<;>rfl
theorem y8(q:Q (xP (lk S.known k)) (.s A S E)):nX G (.builtin "dict.get") [.ref (A .known),vi k] (.s A S E) Q:=
 ⟨λ F m U (T:St G.me A S U E)=>HT (mJ (G:=G) U T) (ah (gL ..) (ah (J1 ..) (jt T q)))⟩
theorem t_(h0:-1000<=l/\l<=1000)(q:∀A',(∀u,live S u->A' u=A u)->Q (.ref (A' (.wl l))) (.s A' (S.sWatch (ins S.watch l ((lk S.watch l).getD []))) E)):nX G (.builtin "dict.setdefault") [.ref (A .watching),vi l,.ref D] (.s A S ((D,.list [])::E)) Q:=
 ⟨λ F m U (T:St G.me A S U ((D,.list [])::E))=>Dw T h0 λ A' U' W hA hW hWl T' =>by (try clear hWl);subst hW;exact jt T' (q A' λ u hu=>hA u hu)⟩
theorem u7{k:Nat}(ha:A (.wl l)=a)(hx:x=(k:Int))(hw:lk S.watch l=some w)(hz:w.length<100000)(q:Q .none (.s A (S.sWatch (ins S.watch l (w++[k]))) E)):nX G (.builtin "list.append") [.ref a,vi x] (.s A S E) Q:=⟨λ F m U (T:St G.me A S U E)=>by subst hx ha;exact KZ T hw hz λ U' T' =>jt T' q⟩
theorem Ic(ha:A (.wl l)=a)(hw:lk S.watch l=some w)(hb:(b,.list xs)∈E)(hx:xs=u.map vn)(hz:w.length+u.length<=100000)(q:Q .none (.s A (S.sWatch (ins S.watch l (w++u))) E)):nX G (.builtin "list.extend") [.ref a,.ref b] (.s A S E) Q:=⟨λ F m U (T:St G.me A S U E)=>by subst ha;exact Kt T hw hb hx hz λ U' T' =>jt T' q⟩
theorem HZ(q:∀N,Q (.ref N) (.s A (S.sWatch (del S.watch l)) ((N,.list (((lk S.watch l).getD []).map vn))::E))):nX G (.builtin "dict.pop") [.ref (A .watching),vi l,.ref D] (.s A S ((D,.list [])::E)) Q:=⟨λ F m U (T:St G.me A S U ((D,.list [])::E))=>JL T λ N U' T' =>jt T' (q N)⟩
theorem HX{Q:Zs->Prop}(hx:xs=w.map vn)(hl:lk S.watch l=none)(h0:-1000<=l/\l<=1000)(q:∀A',(∀u,live S u->A' u=A u)->A' (.wl l)=a->Q (.s A' (S.sWatch (ins S.watch l w)) E)):FX G (.ref (A .watching)) (vi l) (.ref a) (.s A S ((a,.list xs)::E)) Q:=
 ⟨λ F m U (T:St G.me A S U ((a,.list xs)::E))=>C3 T hx hl h0 λ A' U' hA hW T' =>jt T' (q A' hA hW)⟩
theorem B_(hx:xs=c.map vi)(hz:S.rows.length<100000)(q:∀A',(∀u,u≠ .rowL S.rows.length->A' u=A u)->Q .none (.s A' (S.sRows (S.rows++[c])) E)):nX G (.builtin "list.append") [.ref (A .rows),.ref a] (.s A S ((a,.list xs)::E)) Q:=⟨λ F m U (T:St G.me A S U ((a,.list xs)::E))=>Fp T hx hz λ A' U' hA T' =>jt T' (q A' hA)⟩
theorem sw(hx:xs=c.map vi)(hz:S.log.length<100000)(q:∀A',(∀u,u≠ .logT S.log.length->A' u=A u)->Q .none (.s A' (S.sLog (S.log++[c])) E)):nX G (.builtin "list.append") [.ref (A .log),.ref a] (.s A S ((a,.tup xs)::E)) Q:=⟨λ F m U (T:St G.me A S U ((a,.tup xs)::E))=>Ii T hx hz λ A' U' hA T' =>jt T' (q A' hA)⟩
theorem mH:∀U,Zs.ok G (.s A S E) U->U.rd (A .watching)=some (.dict (S.watch.map λ p=>(p.1,.ref (A (.wl p.1))))):=kT .watching rfl (by intro _ _ h;cases h)
theorem GT:∀U,Zs.ok G (.s A S E) U->U.rd (A .rows)=some (.list (refsOf (λ i=>A (.rowL i)) S.rows.length)):=kT .rows rfl (by intro _ _ h;cases h)
theorem ym:∀U,Zs.ok G (.s A S E) U->U.rd (A .log)=some (.list (refsOf (λ i=>A (.logT i)) S.log.length)):=kT .log rfl (by intro _ _ h;cases h)
theorem GU(h:S.rows[k]? =some r):∀U,Zs.ok G (.s A S E) U->U.rd (A (.rowL k))=some (.list (r.map vi)):=kT (.rowL k) (mN h) (by intro _ _ h;cases h)
theorem bN(h:(a,.list xs)∈E):∀U,Zs.ok G (.s A S E) U->U.rd a=some (.list xs):=yl h (by intro _ _ h;cases h)
theorem kI(h:(a,.tup xs)∈E):∀U,Zs.ok G (.s A S E) U->U.rd a=some (.tup xs):=yl h (by intro _ _ h;cases h)
theorem mK(h:(a,.dict xs)∈E):∀U,Zs.ok G (.s A S E) U->U.rd a=some (.dict xs):=yl h (by intro _ _ h;cases h)
theorem dX(h:(a,o)∈E)(k:Zs.ok G (.s A S E) U):U.sees a o:=.inl ((show St G.me A S U E from k).at_ h)
theorem GR(t:tg)(h:fS A S t=some o)(k:Zs.ok G (.s A S E) U):U.sees (A t) o:=.inl ((show St G.me A S U E from k).has t h)
theorem u5(h:∀U,z.ok G U->U.rd a=some (.list xs))(hz:xs.length<=1000000)(q:∀D,Q (.ref D) (z.new D (.list xs))):nX G (.type "list") [.ref a] z Q:=⟨λ F m U k=>vZ (.inl (h U k)) (ac hz (af _ _)) λ D hD=>⟨_,jx k hD,q D⟩⟩
theorem m6(h:∀U,z.ok G U->U.rd a=some (.list xs))(hz:xs.length<=1000000)(q:∀D,Q (.ref D) (z.new D (.tup xs))):nX G (.type "tuple") [.ref a] z Q:=⟨λ F m U k=>tD (h U k) (ac hz (af _ _)) λ D hD=>⟨_,jx k hD,q D⟩⟩
theorem y9(ht:jP a (.list xs) (.list (xs++[v])) E E')(hz:xs.length<=1000000)(q:Q .none (.s A S E')):nX G (.builtin "list.append") [.ref a,v] (.s A S E) Q:=⟨λ F m U (T:St G.me A S U E)=>lr (T.at_ ht.mem) (ac hz (af _ _)) (jt (T.turn ht) q)⟩
theorem KW{Q:Zs->Prop}(ht:jP d (.dict kvs) (.dict (dM kvs k v)) E E')(hz:kvs.length<=1000000)(q:Q (.s A S E')):FX G (.ref d) (vi k) v (.s A S E) Q:=⟨λ F m U (T:St G.me A S U E)=>Ml T ht hz λ U' T' =>jt T' q⟩
theorem Ox(h:∀U,z.ok G U->U.rd d=some (.dict kvs))(q:Q (.bool (iV kvs k).isSome) z):m_ G (bm .In) (vi k) (.ref d) z Q:=⟨λ F m U ok=>KI (h U ok) ⟨z,ok,q⟩⟩
theorem E6(h:∀U,z.ok G U->U.rd d=some (.dict kvs))(q:Q (.bool (!(iV kvs k).isSome)) z):m_ G (bm .NotIn) (vi k) (.ref d) z Q:=⟨λ F m U ok=>BW (h U ok) ⟨z,ok,q⟩⟩
theorem ij{c:List Int}{i:Nat}(h:(c.map vi)[i]? =some v):∃l,c[i]? =some l/\v=vi l:=by
 replace h:=ay▸h
 exact aH (aX.mp h) λ l h1 h2=>(bY l h1 h2.symm)
theorem jM{lo:Int}(h:(fX lo k)[i]? =some v):i<k/\v=vi (lo+i):=by
 replace h:=(mG ..)▸h
 split at h
 ·have UB:=sI h;clear h;subst UB;exact ⟨‹_›,rfl⟩
 ·exact (bH h).elim
theorem uJ(ha:A (.wl l)=a)(hw:lk S.watch l=some w):IsL G (.ref a) (.s A S E):=ha▸Af λ U (T:St G.me A S U E)=>e0 (T.wl_at hw) (by intro _ _ h;cases h)
theorem cT{A B:Prop}(h:A):xD true A B:=⟨λ V=>h,λ h=>nomatch h⟩
theorem cF{A B:Prop}(h:B):xD false A B:=⟨λ h=>(nomatch h),λ V=>h⟩
theorem cD[Decidable p]{A B:Prop}(h1:p->A)(h2:¬p->B):xD (decide p) A B:=⟨λ h=>h1 (of_decide_eq_true h),λ h=>h2 (of_decide_eq_false h)⟩
theorem ql(q:Q (.bool o.isNone) z):m_ G (bm .Is) (xP o) .none z Q:=⟨λ F m U k=>BY ⟨z,k,q⟩⟩
theorem Mx(q:Q (.bool o.isNone) z):m_ G (bm .Is) (vo o) .none z Q:=⟨λ F m U k=>EK ⟨z,k,q⟩⟩
theorem Kl(q:Q (.bool false) z):m_ G (bm .Is) (.ref a) .none z Q:=⟨λ F m U k=>HC ⟨z,k,q⟩⟩
theorem is_none(q:Q (.bool true) z):m_ G (bm .Is) .none .none z Q:=⟨λ F m U k=>uT ⟨z,k,q⟩⟩
theorem is_bool(q:Q (.bool false) z):m_ G (bm .Is) (.bool b) .none z Q:=⟨λ F m U k=>Ax ⟨z,k,q⟩⟩
theorem uP(q:Q (.bool (o==some b)) z):m_ G (bm .Eq) (xP o) (.bool b) z Q:=⟨λ F m U k=>BZ ⟨z,k,q⟩⟩
theorem Kb(q:Q (.bool (!(o==some b))) z):m_ G (bm .NotEq) (xP o) (.bool b) z Q:=⟨λ F m U k=>BX ⟨z,k,q⟩⟩
theorem eq_bool(q:Q (.bool (i==j)) z):m_ G (bm .Eq) (.bool i) (.bool j) z Q:=⟨λ F m U k=>Ay ⟨z,k,q⟩⟩
theorem m7(hk:k<=1000000)(q:∀D,Q (.ref D) (z.new D (.rng 0 k))):nX G (.type "range") [vn k] z Q:=⟨λ F m U ok=>AZ (ac hk (af _ _)) λ D hD=>⟨_,jx ok hD,q D⟩⟩
theorem pO(ha:-1000000<=a/\a<=1000000)(hb:-1000000<=b/\b<=1000000)(q:∀D,Q (.ref D) (z.new D (.rng a (b-a).toNat))):nX G (.type "range") [vi a,vi b] z Q:=⟨λ F m U ok=>AY (cM (by decide) ha.1) (cM ha.2 (by decide)) (cM (by decide) hb.1) (cM hb.2 (by decide)) λ D hD=>⟨_,jx ok hD,q D⟩⟩
theorem u4(hc:c≠some 0)(h:∀U,z.ok G U->U.rd a=some (.list xs))(hz:xs.length<=10000000)(q:∀D,Q (.ref D) (z.new D (.list (lL xs l u c)))):Sq G a l u c z Q:=
 ⟨λ U k=>⟨hc,xs,h U k,hz,z.hp G,z.E,dt I1 k,λ D U' k' =>⟨z.new D _,by clear h k q;cases z<;>exact k',q D⟩⟩⟩
theorem Fw{Q:Zs->Prop}(hx:xs=bs.map vn)(hz:bs.length<=100000)(q:∀A',(∀u,u≠ .begins->A' u=A u)->Q (.s A' (S.sBegins bs) E)):ON G "begins" (.ref a) A S ((a,.list xs)::E) Q:=
 ⟨λ U T=>Bw T hx hz λ A' U' hA T' =>jt T' (q A' hA)⟩
end
end
section
section
variable{G:Gx}{A A' :Ad}{S S' :SS}{E E' :List (Addr×ba)}{n:Nat}{z:Zs}{Q:VQ}
theorem kX(hn:G.n=n+1)(q:Q (xP (says S l)) (.s A S E)):la G 83 [.ref G.me,vi l] (.s A S E) Q:=by
 refine enter hn ["self","literal"] [.me,.v (vi l)] rfl rfl rfl (λ vs h=>by refine fM (ma h) λ V V Uv=>?_;subst Uv;rfl) rfl ?_
 refine bt (Hf mJ) (y8 (ql ?_))
 unfold says at q
 cases e:lk S.known l.natAbs with
 | none=>replace q:=e▸q;exact cT (h_ q)
 | some c=>replace q:=e▸q;exact cF (eq_bool (h_ q))
theorem sj(hn:G.n=n+1)(hl:-1000<=l/\l<=1000)(hz:S.row.length<100000)(q:Q .none (.s A (ln S l c) E)):la G 90 [.ref G.me,vi l,vo c] (.s A S E) Q:=by
 refine enter hn ["self","literal","cause"] [.me,.v (vi l),.v (vo c)] rfl rfl rfl (λ vs h=>by refine kJ (BF h) λ V V V Uy=>?_;subst Uy;rfl) rfl ?_
 exact Ib (LO hl) (iA (B9 (LO hl) (Fg (LO hl) (bt (Af yk) (Fh hl hz (h_ q))))))
theorem nL(hn:G.n=n+1)(R:Tr S)(q:∀A',(∀u,u≠ .begins->A' u=A u)->Q .none (.s A' (cP S k) E)):la G 97 [.ref G.me,vn k] (.s A S E) Q:=by
 refine enter hn ["self","height"] [.me,.v (vn k)] rfl rfl rfl (λ vs h=>by refine fM (ma h) λ V V UB=>?_;subst UB;rfl) rfl ?_
 refine iA (cD (λ hk=>?_) λ hk=>?_)
 ·obtain ⟨b,hb⟩:∃b,S.begins[k]? =some b:=⟨_,aB (bQ.mp hk)⟩
  refine .mk Nat (λ V=>[("self",.me),("height",.v (vn k))]) (λ i=> .s A (i8 i S) E) (λ i=>i<=S.row.length-b) (λ i=>S.row.length-i) 0 (a0 _) rfl d0 λ i hi UO=>?_
  obtain ⟨U,ok⟩:=UO
  have R₁:=un i R
  have hr:=pi i S
  have hbe:(i8 i S).begins=S.begins:=kJ (io i S) λ V V V e=>(ah e rfl)
  have hlen:(i8 i S).row.length=S.row.length-i:=ah hr (ae bL (ae (dW (eE ..)) rfl))
  refine kd (w6 (b:=b) (ah hbe hb) (cD (λ hlt=>?_) λ hlt=>?_))
  ·have hlt:b<(i8 i S).row.length:=bQ.mp hlt
   obtain ⟨r,l,hrl⟩:∃r l,(i8 i S).row=r++[l]:=⟨_,_,(sR (by intro e;replace hlt:=e▸hlt;simp at hlt)).symm⟩
   have hkn:=R₁.at_ (l:=l) (by refine ah hrl ?_;simp)
   refine bt (Af yk) (E5 hrl (bt (Hf mJ) (y5 hkn (Ia (LO ((mM ok).lit l (by refine ah hrl ?_;simp))) ?_))))
   replace hlt:=hlen▸hlt
   clear hlen hr
   exact ⟨i+1,⟨Cy (n8 hlt),show S.row.length-(i+1)<S.row.length-i by exact sf hlt⟩,rfl,A9 (GX hrl hkn).symm⟩
  ·have hi' :i=S.row.length-b:=by have:¬b<(i8 i S).row.length:=λ h=>hlt (bQ.mpr h);replace this:=hlen▸this;exact Ob hlen hi hlt
   have hz8:=(mM ok).z8
   refine u4 (λ h=>(bH h).elim) nB (ah (ag ..) (ac hz8 (af _ _))) λ D=>Fw (ae (jX ..) (ah iD rfl)) (ac (gP _ _).length_le (hz8)) λ A' hA=>kd (h_ ?_)
   have:cP S k={i8 i S with begins:=S.begins.take k,seen:=(i8 i S).row.length}:=by unfold cP;exact ah hb (ah hi' rfl)
   have q:=q A' hA
   replace q:=dc hbe▸this▸q
   exact q
 ·have hb:S.begins[k]? =none:=bD (b0 λ h=>hk (bQ.mpr h))
  have q:=q A λ V V=>rfl
  replace q:=kc hb▸q
  exact h_ q
theorem ES(hn:G.n=n+1)(ha:(a,.list (c.map vi))∈E)(hc:∀l∈c,-1000<=l/\l<=1000)(hcz:c.length<=100000)(hz:S.rows.length<100000)(hw:Wz S 90000)
  (q:∀A',(∀u,live S u->A' u=A u)->Q (vn S.rows.length) (.s A' (iy S c) E)):la G 137 [.ref G.me,.ref a] (.s A S E) Q:=by
 refine enter hn ["self","literals"] [.me,.v (.ref a)] rfl rfl rfl (λ vs h=>by refine fM (ma h) λ V V UC=>?_;subst UC;rfl) rfl ?_
 refine bt (Af GT) (u5 (bN ha) (ah (ag ..) (ac hcz (af _ _))) λ D=>B_ rfl hz λ UZ W5=>?_)
 refine u4 (λ h=>(bH h).elim) (bN ha) (ah (ag ..) (ac hcz (af _ _))) λ L=>?_
 let S₁:SS:=S.sRows (S.rows++[c])
 let f:SS->Int->SS:=λ S l=>gq S l (S.rows.length-1)
 have e2:lL (c.map vi) none (some 2) none=(c.take 2).map vi:=(jX _ 2).trans iD.symm
 refine .mk L (.list ((c.take 2).map vi)) _ (Ad×SS) (λ V=>[("self",.me)]) (λ p=> .s p.1 p.2 ((L,.list ((c.take 2).map vi))::E))
  (λ i p=>p.2=((c.take 2).take i).foldl f S₁/\Wz p.2 (90000+i)/\p.2.rows=S.rows++[c]/\(∀u,live S u->live p.2 u)/\∀u,live S u->p.1 u=A u) (UZ,S₁) rfl rfl ⟨rfl,hw,rfl,λ u hu=>?_,λ u hu=>W5 u λ e=>by subst e;exact absurd hu (cC _)⟩ rfl (dt e2 d0) (λ i p U V k=>dX (.head _) k) ?_ ?_
 ·cases u with
  | rowL i=>exact ((ah aA (Nat.lt_add_right _ hu)):i<(S.rows++[c]).length)
  | _=>exact hu
 ·rintro i ⟨Xy,UH⟩ v hv ⟨hS,hz₃,hrw,hlv,YA⟩-
  refine aH (ij hv) λ l hl UF=>?_;subst UF
  have hlc:=hc l (cH _ _ (am hl))
  have hi2:i<2:=by have:=(al.mp hl).1;replace this:=bL▸this;exact ai this (iJ _ _)
  have hf:((c.take 2).take (i+1)).foldl f S₁=gq UH l (UH.rows.length-1):=ah bw (ah hl (ah (show UH=_ from hS) (ae gR rfl)))
  have hzl:=hz₃ l
  have hlen:(UH.rows.length:Int)-1=((UH.rows.length-1:Nat):Int):=ah (show UH.rows=_ from hrw) (ah aA (ah aW (pc (af _ _))))
  refine bt (Hf mH) (bt (a0 _) λ N=>t_ hlc λ YX hA4=>?_)
  have hWl:lk (ins UH.watch l ((lk UH.watch l).getD [])) l=some ((lk UH.watch l).getD []):=ae (eV ..) (ae (if_pos rfl) rfl)
  refine bt (uJ rfl hWl) (ub (u7 rfl hlen hWl (by refine (?_:((lk UH.watch l).getD []).length<_);dsimp only at hzl;exact Oa hi2 hzl) ⟨(YX,gq UH l (UH.rows.length-1)),⟨hf.symm,hz₃.add l _,hrw,λ u hu=>?_,λ u hu=>(hA4 u (hlv u hu)).trans (YA u hu)⟩,rfl,A9 (congrArg UH.sWatch (uK UH.watch l _ _):)⟩))
  ·cases u with
   | wl j=>
    refine ((ah (eV ..) (eC (λ V=>?_) λ V=>?_)):(lk (ins UH.watch l _) j).isSome)
    ·rfl
    ·exact hlv (.wl j) hu
   | _=>exact hlv _ hu
 ·rintro ⟨Xy,UH⟩ ⟨hS,hz₃,hrw,hlv,YA⟩-
  refine ub (lg nU λ V=>?_)
  have:iy S c=UH:=ah (show UH=_ from hS) (ah (ag ..) (ah bn rfl))
  have q:=q Xy YA
  replace q:=this▸q
  have e:DB (.ret (vi ((UH.rows.length:Int)-1)))=vn S.rows.length:=by refine (?_:vi _=_);exact ah (show UH.rows=_ from hrw) (ah aA (ah aW (ah (show ((S.rows.length+1:Nat):Int)-1=(S.rows.length:Int) by exact N_) rfl)))
  exact e▸q
end
end
section
section
variable{G:Gx}{A A' :Ad}{S S' :SS}{E E' :List (Addr×ba)}{n:Nat}{z:Zs}{Q:VQ}
theorem yx(h:r[k]? =some w):lY S r k (q+1)=if says S w≠some false then some k else lY S r (k+1) q:=((ah (j8 h) rfl):(if says S (r.getD k 0)≠some false then _ else _)=_)
theorem rT{P:Int->Prop}(h2:2<=r.length)(h:∀l∈r,P l)(h0:r.getD 0 0=lost->P lost):∀l∈dg r lost,P l:=λ l hl=>by
 unfold dg at hl
 split at hl
 ·rename_i e
  rcases vC hl with q | q
  ·rcases vC q with q | q
   ·exact h _ q
   ·exact ah q (h _ (am (j7 r 1 h2)))
  ·exact ah q (h0 e)
 ·exact h l hl
theorem By(hr:S.rows[i]? =some r)(hr' :dg r lost=r'):d3 S i lost=if says S (r'.getD 0 0)=some true then (S.sRows (S.rows.set i r'),false)
   else match lY S r' 2 (r'.length-2) with
    | none=>(S.sRows (S.rows.set i r'),false)
    | some k=>(gq (S.sRows (S.rows.set i ((r'.set 1 (r'.getD k 0)).set k lost))) (r'.getD k 0) i,true):=by
 subst hr'
 unfold d3
 exact ah (j8 hr) rfl
structure OR(R:Prop):Prop where
 h:R
theorem Tl[Decidable p]{A B R:Prop}(t:OR R->p->A)(f:OR R->¬p->B)(k:R):xD (decide p) A B:=cD (t ⟨k⟩) (f ⟨k⟩)
theorem Mm{Q:SQ}(h:Q .next m z):BI (Wk (k+1) G) [] Q .next m z:=h
theorem sE{Q:SQ}(e:S=S')(h:w.s r m (.s A S' E) Q):BI w r Q .next m (.s A S E):=e▸h
theorem wX(hn:G.n=n+2)(hr:S.rows[i]? =some r)(h2:2<=r.length)(hz:r.length<=100000)(hr1:∀l∈r,-1000<=l/\l<=1000)(hw:Wz S 99000)
  (q:∀A',(∀u,live S u->A' u=A u)->Q (.bool (d3 S i lost).2) (.s A' (d3 S i lost).1 E)):la G 151 [.ref G.me,vn i,vi lost] (.s A S E) Q:=by
 refine enter hn ["self","number","lost"] [.me,.v (vn i),.v (vi lost)] rfl rfl rfl (λ vs h=>by refine kJ (BF h) λ V V V Uv=>?_;subst Uv;rfl) rfl ?_
 have hi:=(al.mp hr).1
 obtain ⟨r',hF⟩:∃r',dg r lost=r' :=⟨_,rfl⟩
 have hl' :r'.length=r.length:=dt hF (oG _ _)
 have hr1' :∀l∈r',-1000<=l/\l<=1000:=dt hF (rT h2 hr1 λ e=>dt e (hr1 _ (am (j7 r 0 (ai (dN _) h2)))))
 have V6:=By hr hF
 have h0:=j7 r 0 (ai (by decide) h2)
 have h1:=j7 r 1 h2
 have hz6:r.length<=1000000:=ac hz (by decide)
 refine nP hi (jc (j:=0) hr hz6 h0 ?_)
 apply Tl
 case t=>
  intro K hx
  refine jc (j:=1) hr hz6 h1 (nN (j:=0) hr hz6 (ai (dN _) h2) ?_)
  have hs:(S.rows.set i (r.set 0 (r.getD 1 0)))[i]? =some (r.set 0 (r.getD 1 0)):=dw hi
  refine nN (j:=1) hs (ah cJ hz6) (ah cJ h2) ?_
  refine Mm (sE (S' :=S.sRows (S.rows.set i r')) (((ah (xH ..) (dt hF ?_)):S.sRows ((S.rows.set i _).set i _)=_)) K.h)
  unfold dg
  exact ah (if_pos hx) rfl
 case f=>
  intro K hx
  refine Mm (sE (S' :=S.sRows (S.rows.set i r')) (ah (show r' =r by refine sV hF ?_;unfold dg;exact ae (if_neg hx) rfl) (ah (Dr _ _ _ hr) ?_)) K.h);rfl
 case k=>
  have hri:(S.rows.set i r')[i]? =some r' :=dw hi
  have h0' :=j7 r' 0 (ai (ai (dN _) h2) (xb hl' (aw _)))
  have hz6' :r'.length<=1000000:=hl' ▸hz6
  generalize r'.getD 0 0=z0 at h0' V6
  refine jc (j:=0) hri hz6' h0' (kX rfl (uP ⟨λ hc=>?_,λ hc=>?_⟩))
  ·replace V6:=(if_pos (show says S z0=some true from df hc))▸V6
   replace q:=V6▸q
   exact h_ (q A λ V V=>rfl)
  ·replace V6:=(if_neg (show¬says S z0=some true from beq_eq_false_iff_ne.mp hc))▸V6
   refine jA (GU hri) (ag ..) hz6' (pO (by decide) (bt (cM (by decide) (bG _)) (bU.mpr hz6')) λ D=>(ah (show ((r'.length:Int)-2).toNat=r'.length-2 from jK _ 2) ?_))
   have hlv:∀u,live S u->live (S.sRows (S.rows.set i r')) u:=λ u hu=>by
    cases u with
    | rowL j=>exact ((ah cJ hu):j<(S.rows.set i r').length)
    | _=>exact hu
   refine .mk D (.rng 2 (r'.length-2)) _ Nat (λ V=>[("self",.me),("number",.v (vn i)),("lost",.v (vi lost)),("some",.v (.ref (A (.rowL i))))]) (λ V=> .s A (S.sRows (S.rows.set i r')) ((D,.rng 2 (r'.length-2))::E))
    (λ j j' =>j=j' /\j<=r'.length-2/\lY S r' 2 (r'.length-2)=lY S r' (2+j) (r'.length-2-j)) 0 rfl rfl ⟨rfl,a0 _,rfl⟩ rfl d0 (λ j p U V k=>dX (.head _) k) ?_ ?_
   ·rintro j _ v hv ⟨rfl,hj,hk⟩-
    refine aP (jM hv) λ hjl Uy=>?_;subst Uy
    refine ah (show (2:Int)+(j:Int)=((2+j:Nat):Int) by rfl) ?_
    obtain ⟨w,hw1⟩:∃w,r'[2+j]? =some w:=⟨_,aB (n8 hjl)⟩
    have XE:=yx (S:=S) (q:=r'.length-2-j-1) hw1
    replace XE:=dc hk▸(show r'.length-2-j-1+1=r'.length-2-j by exact gw (lE hjl))▸XE
    refine jc hri hz6' hw1 (kX rfl (Kb ⟨λ hs=>?_,λ hs=>?_⟩))
    ·replace XE:=(if_pos (show says S w≠some false from beq_eq_false_iff_ne.mp ((dh _).mp hs)))▸XE
     replace V6:=XE▸V6
     dsimp only at V6
     replace V6:=j8 hw1▸V6
     refine jc hri hz6' hw1 (nN (j:=1) hri hz6' (ai (ai (aK _) (aw _)) (xc hl' h2)) ?_)
     have hs2:((S.rows.set i r').set i (r'.set 1 w))[i]? =some (r'.set 1 w):=dw (ah cJ hi)
     refine nN hs2 (ah cJ hz6') (by refine ah cJ ?_;exact n8 hjl) ?_
     have hs3:(((S.rows.set i r').set i (r'.set 1 w)).set i ((r'.set 1 w).set (2+j) lost))[i]? =some ((r'.set 1 w).set (2+j) lost):=dw (ah cJ (ah cJ hi))
     refine bt (Hf mH) (jc (j:=1) hs3 (ah cJ (ah cJ hz6')) (ae (ox (cj (ai (aK _) (ax _ _)))) (dw (ai (ai (aK _) (aw _)) (xc hl' h2)))) ?_)
     refine bt (a0 _) λ N=>(t_ (hr1' w (am hw1)) λ Xy YA=>?_)
     have hWl:lk (ins S.watch w ((lk S.watch w).getD [])) w=some ((lk S.watch w).getD []):=ae (eV ..) (ae (if_pos rfl) rfl)
     refine bt (uJ rfl hWl) (u7 rfl rfl hWl (by have:=hw w;exact au this (by decide)) ?_)
     replace q:=V6▸q
     refine lg (nU.tr (A9 ?_)) λ V=>q Xy λ u hu=>YA u ?_
     ·exact ((ah (uK ..) (ah (xH ..) (ah (xH ..) rfl))):(S.sRows (((S.rows.set i r').set i _).set i _)).sWatch (ins (ins S.watch w _) w _)=gq (S.sRows (S.rows.set i _)) w i)
     ·cases u with
      | rowL q=>exact ((ah cJ (ah cJ (ah cJ hu))):q<(((S.rows.set i r').set i (r'.set 1 w)).set i _).length)
      | _=>exact hu
    ·replace XE:=(if_neg (show¬says S w≠some false from λ e=>e (df ((CV _).mp hs))))▸XE
     exact ⟨j+1,⟨rfl,bB hjl,ae XE (ah (show 2+j+1=2+(j+1) by exact fP _ _ _) (ah (show r'.length-2-j-1=r'.length-2-(j+1) by exact Nat.sub_sub _ _ _) rfl))⟩,rfl,d0⟩
   ·rintro _ ⟨rfl,hj,hk⟩-
    replace V6:=(kF ..)▸(dp ..)▸hk▸V6
    replace q:=(show d3 S i lost=(S.sRows (S.rows.set i r'),false) from V6)▸q
    exact lg nU λ V=>q A λ V V=>rfl
end
end
section
section
variable{G:Gx}{A A' :Ad}{S S' :SS}{E E' :List (Addr×ba)}{n:Nat}{z:Zs}{Q:VQ}
theorem EQ{J:SS->Prop}{M:SS->Int->List Nat->Nat->Prop}{P:SS->Nat->Prop}(hn:G.n=n+3)(K:sH J M P)(J0:J S)
  (q1:∀A' S',J S' ->S'.row.length<=S'.seen->nS S' ->Q (vi (-1)) (.s A' S' E)) (q2:∀A' S' i,P S' i->nS S' ->Q (vn i) (.s A' S' E)):la G 144 [.ref G.me] (.s A S E) Q:=by
 refine enter hn ["self"] [.me] rfl rfl rfl (λ vs h=>by refine aS (wD h) λ V Uv=>?_;subst Uv;rfl) rfl ?_
 refine .mk (Ad×SS) (λ V=>[("self",.me)]) (λ p=> .s p.1 p.2 E) (λ p=>J p.2) (λ p=>100001-p.2.seen) (A,S) J0 rfl d0 ?_
 intro Uy J0 UB;obtain ⟨A,S⟩:=Uy;obtain ⟨U,ok⟩:=UB
 have F:=mM ok
 dsimp only at J0 F
 refine kd (cD (λ hlt=>?_) λ hlt=>?_)
 ·have hlt:S.seen<S.row.length:=bQ.mp hlt
  obtain ⟨l,hl⟩:∃l,S.row[S.seen]? =some l:=⟨_,aB hlt⟩
  refine aP (K.enter S l J0 F hl) λ hn1 hM=>?_
  have hlr:=F.lit l (am hl)
  have hlo:-1000<=-l/\-l<=1000:=SR hlr
  have hz7:=F.z7
  refine sv hl (bt (Hf mH) (bt (a0 _) λ D0=>(HZ λ N=>(bt (a0 _) λ D1=>(HX (w:=[]) rfl (((ae (oD ..) (ae (if_pos rfl) rfl)):lk (del S.watch (-l)) (-l)=none)) hlo λ UZ W5 Y7=>?_)))))
  generalize hns:(lk S.watch (-l)).getD []=ns at hn1 hM
  have hns' :(lk (S.sSeen (S.seen+1)).watch (-l)).getD []=ns:=hns
  refine ah hns' (jA (bN (.head _)) (ag ..) (ac hn1 (af _ _)) (m7 (ac hn1 (af _ _)) λ R=>(.mk R (.rng 0 ns.length) _ (Ad×SS) (λ V=>[("self",.me),("lost",.v (vi (-l))),("stay",.v (.ref D1)),("numbers",.v (.ref N))]) (λ p=> .s p.1 p.2 ((R,.rng 0 ns.length)::(N,.list (ns.map vn))::E))
   (λ k p=>M p.2 (-l) ns k/\p.2.seen=S.seen+1/\(lk p.2.watch (-l)).isSome/\p.1 (.wl (-l))=D1) (UZ,wn S l) rfl rfl ⟨hM,rfl,((ah (eV ..) (ah (if_pos rfl) rfl)):(lk (ins _ _ _) _).isSome),Y7⟩ rfl d0 (λ k p U V q=>dX (.head _) q) ?_ ?_)))
  ·intro k UC v hv UF UP;obtain ⟨A,Vb⟩:=UC;refine fE UF λ hM Xk XC hW=>?_;clear UF;obtain ⟨U',ok'⟩:=UP
   dsimp only at hM Xk XC hW
   have YV:=mM ok'
   dsimp only at YV
   refine aP (jM hv) λ hkl UQ=>?_;subst UQ
   refine ah (nt ..) ?_
   obtain ⟨i,hi⟩:∃i,ns[k]? =some i:=⟨_,aB hkl⟩
   refine KB (K.turn Vb _ ns k i hM YV hi) λ r hr Yd W9 hrr hw hnz hrow UT U9 hw' K1 K2=>?_;clear UT;clear U9
   have hki:(ns.map vn)[k]? =some (vn i):=ae ay (ah hi rfl)
   have hnl:(ns.map vn).length<=1000000:=ah (ag ..) (ac hnz (af _ _))
   refine ke (bN (.tail _ (.head _))) hnl hki (wX rfl hr Yd W9 hrr (λ l=>ac (hw l) (by decide)) λ VG XN=>?_)
   have hs' :=Bx Vb i (-l) (-l) XC
   have YE :=wv Vb i (-l)
   have Ze:=uy (S:=Vb) (i:=i) (lost:=-l)
   replace Ze:=j8 hr▸Ze
   have hW' :VG (.wl (-l))=D1:=(XN (.wl (-l)) XC).trans hW
   generalize d3 Vb i (-l)=p at*
   obtain ⟨UH,b⟩:=p
   dsimp only at*
   cases b with
   | true=>exact cF ⟨(VG,UH),⟨K1 rfl,YE.trans Xk,hs',hW'⟩,rfl,d0⟩
   | false=>
    refine ck (K2 rfl) λ K3 K4 K5=>?_
    have hS:=Ze rfl
    refine aS (cz.mp hs') λ w VT=>?_
    have hwz:w.length<=40001:=by have:=hw' (-l);replace this:=VT▸this;exact this
    have hr3:UH.rows[i]? =some (dg r (-l)):=ah hS (dw (al.mp hr).1)
    have Xb:=oG r (-l)
    have hf0:(dg r (-l))[0]? =some ((dg r (-l)).getD 0 0):=j7 _ _ (ai (ai (dN _) Yd) (xb Xb (aw _)))
    have hfr:=rT (P:=λ l=>-1000<=l/\l<=1000) Yd hrr (λ V=>hlo) _ (am hf0)
    have hadd:gq UH (-l) i=UH.sWatch (ins UH.watch (-l) (w++[i])):=by unfold gq;exact ah VT rfl
    have hlk:lk (gq UH (-l) i).watch (-l)=some (w++[i]):=ah hadd ((eV ..).trans (if_pos rfl))
    have hsy:∀x,says (gq UH (-l) i) x=says Vb x:=λ x=>ah hS rfl
    have hrow3:(gq UH (-l) i).row.length<100000:=ah hS (bz hrow (by decide))
    have hr4:(gq UH (-l) i).rows[i]? =some (dg r (-l)):=hr3
    have hse4:(gq UH (-l) i).seen=S.seen+1:=YE.trans Xk
    generalize dg r (-l)=r' at*
    generalize r'.getD 0 0=f at*
    refine cT (bt (uJ hW' VT) (ke (bN (.tail _ (.head _))) hnl hki (u7 hW' rfl VT (au hwz (by decide)) (dt hadd ?_))))
    clear hadd hS Ze VT hs' hr3
    generalize gq UH (-l) i=S₄ at*
    refine ke (bN (.tail _ (.head _))) hnl hki (nP (al.mp hr4).1 (jc (j:=0) hr4 (ac (aC Xb) (ac W9 (af _ _))) hf0 (kX rfl (uP (ah (hsy ..) ⟨λ hc=>?_,λ hc=>?_⟩)))))
    ·refine bt (uJ hW' hlk) (u4 (λ h=>(bH h).elim) (bN (.tail _ (.head _))) (ah (ag ..) (ac hnz (af _ _))) λ Wj=>?_)
     refine Ic (u:=ns.drop (k+1)) hW' hlk (.head _) ((pick_from _ (k+1)).trans LH.symm) (by refine ah aA (ah l8 (ah aW ?_));exact N8 hn1 hwz) ?_
     refine ke (bN (.tail _ (.tail _ (.head _)))) hnl hki (lg (S:=si S₄ (-l) (ns.drop (k+1))) (Dc.tr (nU.tr (A9 ?_))) λ F=>q2 VG _ i (K3 (df hc)) F)
     unfold si
     exact ah hlk rfl
    ·refine kX rfl (ql (ah (hsy ..) ?_))
     cases hc2:says Vb f with
     | none=>
      exact cT (ke (bN (.tail _ (.head _))) hnl hki (sj (c:=some i) rfl hfr hrow3 ⟨(VG,_),⟨K5 hc2,hse4,((ah hlk rfl):(lk S₄.watch _).isSome),hW'⟩,rfl,d0⟩))
     | some b=>
      cases b with
      | false=>replace hc:=hc2▸hc;exact (v8 hc).elim
      | true=>exact cF ⟨(VG,S₄),⟨K4 hc2,hse4,ah hlk rfl,hW'⟩,rfl,d0⟩
  ·rintro ⟨A,Vb⟩ ⟨hM,Xk,XC,hW⟩-
   replace hM:=(dp ..)▸hM
   dsimp only at Xk
   exact ⟨(A,Vb),⟨K.leave _ _ _ hM,show 100001-Vb.seen<100001-S.seen by lia⟩,rfl,Dc⟩
 ·exact h_ (q1 A S J0 (b0 λ h=>hlt (bQ.mpr h)) F)
end
end
section
section
variable{G:Gx}{A A' :Ad}{S S' :SS}{E E' :List (Addr×ba)}{n:Nat}{z:Zs}{Q:VQ}
theorem Jr(h:∀U,z.ok G U->U.rd d=some (.dict (pr f)))(q:Q (.bool (decide (k∈f))) z):m_ G (bm .In) (vi k) (.ref d) z Q:=Ox h (ah (As ..) q)
theorem E8(h:∀U,z.ok G U->U.rd d=some (.dict (pr f)))(q:Q (.bool (!decide (k∈f))) z):m_ G (bm .NotIn) (vi k) (.ref d) z Q:=E6 h (ah (As ..) q)
noncomputable def te(f:List Int)(k:Int):List Int:=if k∈f then f else f++[k]
theorem E4{Q:Zs->Prop}(ht:jP d (.dict (pr f)) (.dict (pr (te f k))) E E')(hz:f.length<=1000000)(q:Q (.s A S E')):FX G (.ref d) (vi k) (.bool true) (.s A S E) Q:=
 KW (by rewrite [tG];exact ht) (ah (ag ..) hz) q
theorem w4(hd:(d,.dict kvs)∈E)(h64:kvs.length<64)(q:∀D ys,qu false (kvs.map λ p=>(p.1.natAbs:Int)) (kvs.map λ p=>vi p.1) ys->ys.length<=1000->Q (.ref D) (.s A S ((D,.list ys)::E))):
  Pq G (.builtin "sorted") [.ref d] [bg "key"] [.builtin "abs"] (.s A S E) Q:=
 ⟨λ F m U (T:St G.me A S U E)=>rP T hd h64 λ D ys U' hk hl T' =>jt T' (q D ys hk hl)⟩
theorem Ij(h:f.Nodup):(te f k).Nodup:=by
 unfold te
 refine eC (λ V=>?_) λ hk=>?_
 ·exact h
 ·exact cU.mpr ⟨h,by simp,λ a ha b hb=>ah (aq.mp hb) (λ e=>hk (e▸ha))⟩
theorem Fu:x∈te f k↔x∈f\/x=k:=by
 unfold te
 refine eC (λ h=>?_) λ V=>?_
 ·exact ⟨.inl,λ e=>e.elim id λ e=>e▸h⟩
 ·rw [az,aq]
theorem Fv:(te f k).length<=f.length+1:=by
 unfold te
 refine eC (λ V=>?_) λ V=>?_
 ·exact gm _
 ·exact ah aA (aw _)
structure IE(ls f:List Int)(i:Nat):Prop where
 nd:f.Nodup
 mem:∀x,x∈f↔x∈ls.take i
 pw:(ls.take i).Pairwise λ x y=>y≠-x
 len:f.length<=i
theorem IE.step(K:IE ls f i)(h:ls[i]? =some l)(hc:-l∉f):IE ls (te f l) (i+1):=by
 have ht:ls.take (i+1)=ls.take i++[l]:=ae bw (ah h rfl)
 refine ⟨Ij K.nd,λ x=>?_,?_,ac Fv (bJ K.len)⟩
 ·rw [ht,Fu,az,aq,K.mem]
 ·refine ah ht (gk jJ (dn K.pw (iS _ _) (λ x hx y hy e=>hc ((K.mem _).mpr ?_))))
  replace e:=aq.mp hy▸e
  exact ah e (ah (eh ..) hx)
theorem qo(hn:G.n=n+1)(ha:(a,ao)∈E)(hi:fy ao=some (ls.map vi))(hz:ls.length<64)
  (q1:¬ls.Pairwise (λ x y=>y≠-x)->Q .none (.s A S E)) (q2:ls.Pairwise (λ x y=>y≠-x)->∀c D,vk ls c->Q (.ref D) (.s A S ((D,.tup (c.map vi))::E))):la G 62 [.ref a] (.s A S E) Q:=by
 refine enter hn ["literals"] [.v (.ref a)] rfl rfl rfl (λ vs h=>by refine aS (wD h) λ V Uv=>?_;subst Uv;rfl) rfl λ D=>?_
 refine .mk a ao (ls.map vi) (List Int) (λ V=>[("found",.v (.ref D))]) (λ f=> .s A S ((D,.dict (pr f))::E)) (λ i f=>IE ls f i) [] rfl hi ⟨.nil,λ x=>o_,.nil,aw _⟩ rfl d0 (λ i f U V k=>dX (.tail _ ha) k) ?_ ?_
 ·intro i f v hv K _
  refine aH (ij hv) λ l hl1 Uy=>?_;subst Uy
  refine Jr (mK (.head _)) (cD (λ hc=>?_) λ hc=>?_)
  ·refine lg nU λ V=>q1 λ hP=>?_
   have:=hP.sublist (gP (i+1) ls)
   replace this:=hl1▸bw▸this;rewrite [jJ] at this
   exact this.2.2 _ ((K.mem _).mp hc) l (.head _) (eh l).symm
  ·refine E4 .here (ac K.len ?_) ⟨te f l,K.step hl1 hc,rfl,d0⟩
   have:=(al.mp hl1).1
   exact aG (ai (bz this hz) (ac (aw _) (af _ _)))
 ·intro f K _
  have hl:(pr f).length<64:=ah (ag ..) (au K.len (ah (ag ..) hz))
  refine w4 (.head _) hl λ X6 ys hk hyl=>(m6 (bN (.head _)) (ac hyl (by decide)) λ Wj=>?_)
  (try clear hyl);refine cX (qu.ints hk K.nd) λ c UB hc1 hc2=>?_;subst UB
  have hm:=K.mem
  have hp:=K.pw
  rw [ag,bn] at hm hp
  exact lg (l_ (.cons_cons _ (.cons _ (.cons _ (.refl _))))) λ V=>q2 hp c Wj ⟨hc1.nodup_iff.mpr K.nd,λ x=>hc1.mem_iff.trans (hm x),hc2⟩
theorem wW(hn:G.n=n+1)(hk:lk S.heights l.natAbs=some k)(q:Q (vn k) (.s A S E)):la G 170 [.ref G.me,vi l] (.s A S E) Q:=by
 refine enter hn ["self","literal"] [.me,.v (vi l)] rfl rfl rfl (λ vs h=>by refine fM (ma h) λ V V UC=>?_;subst UC;rfl) rfl ?_
 exact jN hk (h_ q)
theorem HH(hn:G.n=n+1)(q:Q (.bool ((lk S.known l).getD false)) (.s A S E)):la G 210 [.ref G.me,vi l] (.s A S E) Q:=by
 refine enter hn ["self","v"] [.me,.v (vi l)] rfl rfl rfl (λ vs h=>by refine fM (ma h) λ V V UF=>?_;subst UF;rfl) rfl ?_
 refine bt (Hf mJ) ⟨λ F m U (T:St G.me A S U E)=>AC (T.rd .known rfl (by intro _ _ h;cases h)) (ah (gL ..) ?_)⟩
 cases e:lk S.known l<;>replace q:=e▸q<;>exact jt T (h_ q)
theorem ET(hn:G.n=n+1)(q:Q (.ref (A .blamed)) (.s A S E)):la G 217 [.ref G.me] (.s A S E) Q:=by
 refine enter hn ["self"] [.me] rfl rfl rfl (λ vs h=>by refine aS (wD h) λ V UP=>?_;subst UP;rfl) rfl ?_
 exact h_ q
theorem wV(hn:G.n=n+1)(hz:S.log.length<100000)(q:∀A',(∀u,live S u->A' u=A u)->Q .none (.s A' (ph S) E)):la G 130 [.ref G.me] (.s A S E) Q:=by
 refine enter hn ["self"] [.me] rfl rfl rfl (λ vs h=>by refine aS (wD h) λ V UQ=>?_;subst UQ;rfl) rfl ?_
 refine bt (Af ym) (bt (a0 _) λ D=>(sw (c:=[]) rfl hz λ A' hA=>h_ (q A' λ u hu=>hA u λ e=>?_)))
 subst e;exact absurd hu (cC _)
end
end
section
section
variable{G:Gx}{A A' :Ad}{S S' :SS}{E E' :List (Addr×ba)}{n:Nat}{z:Zs}{Q:VQ}
theorem kg(h:lk S.heats k=some b)(q:Q (vi b) (.s A S E)):FY G (.ref (A .heats)) (vi k) (.s A S E) Q:=⟨λ F m U (T:St G.me A S U E)=>BS T h (jt T q)⟩
theorem yZ{Q:Zs->Prop}(hl:S.lock=none)(h0:0<=k/\k<=1000)(q:Q (.s A (S.sHeats (ins S.heats k b)) E)):FX G (.ref (A .heats)) (vi k) (vi b) (.s A S E) Q:=⟨λ F m U (T:St G.me A S U E)=>C6 T hl h0 λ U' T' =>jt T' q⟩
theorem u6(hj:j≠0)(hz:j.natAbs<1073741824)(q:Q (vi (i.fdiv j)) z):m_ G (fB .FloorDiv) (vi i) (vi j) z Q:=⟨λ F m U k=>G1 hj hz ⟨z,k,q⟩⟩
theorem Ik{Q:Zs->Prop}(hl:S.lock=none)(hx:kv=mh vi hs)(hz:Kv hs)(q:∀A',(∀u,u≠ .heats->A' u=A u)->Q (.s A' (S.sHeats hs) E)):ON G "heats" (.ref a) A S ((a,.dict kv)::E) Q:=
 ⟨λ U T=>DP T hl hx hz λ A' U' hA T' =>jt T' (q A' hA)⟩
structure LS(hs:List (Int×Int))(i:Nat)(ys:List (Int×Value))(gs:List (Int×Int)):Prop where
 e:ys=mh vi gs
 k:gs.map (·.1)=(hs.take i).map (·.1)
theorem LS.step(hK:kA hs)(K:LS hs i ys gs)(h:(hs.map (·.1))[i]? =some u):LS hs (i+1) (dM ys u (vi x)) (ins gs u x):=by
 have htk:(hs.take (i+1)).map (·.1)=(hs.take i).map (·.1)++[u]:=ae iD (ah iD (ae bw (ah h rfl)))
 have hsub:∀j,((hs.take j).map (·.1)).Nodup:=λ j=>SJ ((gP _ _).map _) hK
 have hgs:kA gs:=by unfold kA;exact ah K.k (hsub i)
 have hun:lk gs u=none:=by
  have hn:=hsub (i+1)
  replace hn:=htk▸hn;rewrite [cU] at hn
  exact gk (ii ..) (ah K.k (λ hm=>hn.2.2 u hm u (.head _) rfl))
 exact ⟨ah K.e (lJ vi gs u x hgs),ah htk (ae (lM (·.1) (·.1) gs u _ hun λ V V=>rfl) (ah K.k rfl))⟩
theorem LS.kv(h:Kv hs)(K:LS hs hs.length ys gs):gs.map (·.1)=hs.map (·.1)/\Kv gs:=by
 have e:=K.k
 replace e:=bn▸e
 exact dn e (by unfold kA;exact ah e (h.1)) (ah e (h.2))
theorem Ke{l:List (Int×Int)}{i:Nat}(hK:kA l)(h:(l.map (·.1))[i]? =some u):∃y,lk l u=some y:=by
 replace h:=ay▸h
 exact aH (aX.mp h) λ p h1 h2=>⟨p.2,tN (i:=i) hK (ae h1 (dt h2 rfl))⟩
theorem KN{v:Int}(hn:G.n=n+1)(F:nS S)(hl:S.lock=none)(hv:(lk S.heats v).isSome)
  (q:∀A' hs g,hs.map (·.1)=S.heats.map (·.1)->(∀u,u≠ .heats->A' u=A u)->Q .none (.s A' ((S.sHeats hs).sGain g) E)):la G 156 [.ref G.me,vi v] (.s A S E) Q:=by
 refine aS (cz.mp hv) λ x hx=>?_
 have hr:0<=v/\v<=1000:=F.v5.2 v (cS λ e=>by replace hx:=(ii _ _).mpr e▸hx;exact (bH hx).elim)
 refine enter hn ["self","v"] [.me,.v (vi v)] rfl rfl rfl (λ vs h=>by refine fM (ma h) λ V V Uv=>?_;subst Uv;rfl) rfl ?_
 have V7:=wH S.heats v (x+S.gain) hv
 have hK:=F.v5.ins (x+S.gain) hr.1 hr.2
 have hlk:lk (ins S.heats v (x+S.gain)) v=some (x+S.gain):=ae (eV ..) (ae (if_pos rfl) rfl)
 refine kg hx (yZ hl hr ?_)
 generalize ins S.heats v (x+S.gain)=hs at V7 hK hlk
 refine kg (b:=x+S.gain) hlk (cD (λ V=>?_) λ V=>?_)
 ·refine .heats A (S.sHeats hs) E (λ i ys=>∃gs,LS hs i ys gs) rfl rfl hl ⟨[],rfl,rfl⟩ (λ o i ys u hu K=>?_) λ ys K D=>?_
  ·exact aS K λ gs K=>(aS (Ke hK.1 hu) λ y hy=>(kg (b:=y) hy (u6 (by decide) (by decide) ⟨d0,_,K.step hK.1 hu⟩)))
  ·exact aS K λ gs K=>(aP (K.kv hK) λ e1 e2=>(Ik (hs:=gs) hl K.e e2 λ A' hA=>(h_ (q A' gs 1 (e1.trans V7) hA))))
 ·exact h_ (q A hs S.gain V7 λ V V=>rfl)
end
end
section
section
variable{G:Gx}{A A' :Ad}{S S' :SS}{E E' :List (Addr×ba)}{n:Nat}{z:Zs}{Q:VQ}
theorem m8(h:lk S.causes k=some b)(q:Q (vo b) (.s A S E)):FY G (.ref (A .causes)) (vi k) (.s A S E) Q:=⟨λ F m U (T:St G.me A S U E)=>yI T h (jt T q)⟩
theorem u8(ha:∀U,z.ok G U->U.rd a=some (.list xs))(hb:∀U,z.ok G U->U.rd b=some (.list ys))(hz:xs.length+ys.length<=1000000)(q:∀D,Q (.ref D) (z.new D (.list (xs++ys)))):m_ G (fB .Add) (.ref a) (.ref b) z Q:=
 ⟨λ F m U k=>G4 (ha U k) (hb U k) (ac hz (af _ _)) λ D hD=>⟨_,jx k hD,q D⟩⟩
theorem we(ha:A (.rowL k)=a)(h:S.rows[k]? =some r)(T:Zs.ok G (.s A S E) U):U.sees a (.list (r.map vi)):=ha▸GR (.rowL k) (mN h) T
theorem w7(h:k∉f):te f k=f++[k]:=if_neg h
theorem Da(h:a=b)(k:sW me (put m x (vi b)) m'):sW me (put m x (vi a)) m' :=h▸k
theorem uj{a:Nat}(h:0<a):(a:Int)-1=((a-1:Nat):Int):=pc (bB h)
structure Ht(S:SS)(A A' :Ad)(hs:List (Int×Int)):Prop where
 k:hs.map (·.1)=S.heats.map (·.1)
 a:∀u,u≠ .heats->A' u=A u
theorem Ht.refl:Ht S A A S.heats:=⟨rfl,λ V V=>rfl⟩
theorem Ht.has(H:Ht S A A' hs)(h:(lk S.heats v).isSome):(lk hs v).isSome:=by
 rw [Option.isSome_iff_ne_none] at h⊢
 refine ah (ne_eq ..) (gk (ii ..) (ah H.k ?_));rewrite [<-ii];exact h
structure vK where
 A:Ad
 hs:List (Int×Int)
 g:Int
 ms:List Int
 bh:List Int
 o:Nat
 sp:Nat
 p:Int
 num:Nat
noncomputable abbrev vK.mm(M B:Addr)(i:vK):eY:=[("self",.me),("number",.v (vn i.num)),("marked",.v (.ref M)),("behind",.v (.ref B)),("open_ones",.v (vn i.o)),("spot",.v (vn i.sp)),("pivot",.v (vi i.p))]
noncomputable abbrev vK.zz(S:SS)(M B:Addr)(E:List (Addr×ba))(i:vK):Zs:=.s i.A ((S.sHeats i.hs).sGain i.g) ((B,.list (i.bh.map vi))::(M,.dict (pr i.ms))::E)
noncomputable abbrev vK.tt(i:vK):List Int×List Int×Nat:=(i.ms,i.bh,i.o)
structure Lj(S:SS)(A:Ad)(i:vK)(r:List Int)(k:Nat)(j:vK):Prop where
 ht:Ht S A j.A j.hs
 t:j.tt=(r.take k).foldl (dC S i.p) i.tt
 sp:j.sp=i.sp
 p:j.p=i.p
 num:j.num=i.num
theorem Lj.step(J:Lj S A i r k j)(h:r[k]? =some l)(ht:Ht S A UZ hs)(e:dC S i.p j.tt l=t'):Lj S A i r (k+1) {j with A:=UZ,hs:=hs,g:=g,ms:=t'.1,bh:=t'.2.1,o:=t'.2.2}:=⟨ht,(ah bw (ah h (ah gR (dt J.t e.symm)))),J.sp,J.p,J.num⟩
theorem Lj.len(J:Lj S A i r k j):j.ms.length<=i.ms.length+r.length/\j.bh.length<=i.bh.length+r.length:=by
 have h:=tL S i.p (r.take k) i.tt
 replace h:=dc J.t▸h
 have h2:(r.take k).length<=r.length:=ah bL (ic ..)
 exact ⟨ac h.1 (aJ h2 _),ac h.2 (aJ h2 _)⟩
theorem DT(e:lk S.heights l.natAbs=some hh)(h:¬(l≠p/\(l.natAbs:Int)∉t.1/\0<hh)):dC S p t l=t:=by
 unfold dC
 exact ah e (if_neg h)
theorem BA(e:lk S.heights l.natAbs=some hh)(h1:l≠p)(h2:(l.natAbs:Int)∉t.1)(h3:0<hh):dC S p t l=if hh=S.begins.length then (t.1++[(l.natAbs:Int)],t.2.1,t.2.2+1) else (t.1++[(l.natAbs:Int)],t.2.1++[l],t.2.2):=by
 unfold dC
 exact ah e (if_pos ⟨h1,h2,h3⟩)
theorem ER{number:Nat}{L:List Int->List Int->Nat->Nat->Int->Nat->Prop}{P:List Int->Prop}(hn:G.n=n+2)(K:kh S L P)(hl:S.lock=none)(hL:L [] [] 0 S.row.length 0 number)
  (q:∀A' hs g t D,Ht S A A' hs->P t->Q (.ref D) (.s A' ((S.sHeats hs).sGain g) ((D,.list (t.map vi))::E))):la G 163 [.ref G.me,vn number] (.s A S E) Q:=by
 refine enter hn ["self","number"] [.me,.v (vn number)] rfl rfl rfl (λ vs h=>by refine fM (ma h) λ V V Uv=>?_;subst Uv;rfl) rfl ?_
 intro M
 refine bt (a0 _) λ B=>(kd (.mk vK (vK.mm M B) (vK.zz S M B E) (λ i=>Ht S A i.A i.hs/\L i.ms i.bh i.o i.sp i.p i.num) (·.sp) ⟨A,S.heats,S.gain,[],[],0,S.row.length,0,number⟩ ⟨.refl,hL⟩ rfl d0 λ i hi V=>cT (aP hi λ H hLi=>?_)));clear hi
 obtain ⟨r,hr,W9,hmz,hbz,Zd,hrk,j,l,hj,hjl,hjm,hjn,ho,hP,ZO⟩:=K.turn _ _ _ _ _ _ hLi
 refine nP (al.mp hr).1 (.mk (i.A (.rowL i.num)) (.list (r.map vi)) _ vK (vK.mm M B) (vK.zz S M B E) (Lj S A i r) i rfl rfl ⟨H,rfl,rfl,rfl,rfl⟩ rfl d0 (λ k j' U J T=>we (S:=(S.sHeats j'.hs).sGain j'.g) ((J.ht.a (.rowL i.num) (λ h=>nomatch h)).trans (H.a (.rowL i.num) (λ h=>nomatch h)).symm) hr T) ?_ ?_)
 ·intro k c v hv J ⟨U,ok⟩
  have F:=mM ok
  refine aH (ij hv) λ y hy Uy=>?_;subst Uy
  refine aP (hrk y (am hy)) λ Yh hh2=>(aS (cz.mp Yh) λ hh Yh=>?_)
  have hlen:=J.len
  have stay:(¬(y≠i.p/\(y.natAbs:Int)∉c.ms/\0<hh))->Lj S A i r (k+1) c:=λ h=>J.step hy J.ht (DT Yh h)
  have ep:=J.p
  refine cD (λ c1=>?_) λ c1=>cF ⟨c,stay λ h=>c1 (ah ep (h.1)),rfl,d0⟩
  replace c1:=ep▸c1
  refine E8 (mK (.tail _ (.head _))) (.mk (λ c2=>?_) λ c2=>cF ⟨c,stay λ h=>h.2.1 (of_decide_eq_true ((CV _).mp c2)),rfl,d0⟩)
  have c2:=of_decide_eq_false ((dh _).mp c2)
  refine jN (b:=hh) Yh (cD (λ c3=>?_) λ c3=>cF ⟨c,stay λ h=>c3 (bQ.mpr h.2.2),rfl,d0⟩)
  have c3:0<hh:=bQ.mp c3
  have Xz:=BA (t:=c.tt) Yh c1 c2 c3
  refine cT (E4 (.there .here) (ac hlen.1 (ac (cG hmz W9) (ac (aw _) (af _ _)))) (KN rfl {F with} hl (J.ht.has hh2) λ UZ hs g e1 e2=>?_))
  have H₁:Ht S A UZ hs:=⟨e1.trans J.ht.k,λ u hu=>(e2 u hu).trans (J.ht.a u hu)⟩
  refine jN (b:=hh) Yh (iA (cD (λ c4=>?_) λ c4=>?_))
  ·replace Xz:=(if_pos (show hh=S.begins.length from fQ.mp c4))▸Xz
   exact ⟨_,J.step (g:=g) hy H₁ Xz,rfl,ah (w7 c2) d0⟩
  ·replace Xz:=(if_neg (show¬hh=S.begins.length from λ e=>c4 (fQ.mpr e)))▸Xz
   refine bt (Af (bN (.head _))) (y9 .here (ah (ag ..) (ac hlen.2 (ac (cG hbz W9) (ac (aw _) (af _ _))))) ⟨_,J.step (g:=g) hy H₁ Xz,rfl,?_⟩)
   exact ah (w7 c2) (((ah aE d0):jm _ (.s _ _ ((B,.list (c.bh.map vi++[vi y]))::_)) (.s _ _ ((B,.list ((c.bh++[y]).map vi))::_))))
 ·intro c J ⟨U,ok⟩
  have ht:=J.t
  replace ht:=bn▸(ag ..)▸ht
  rw [<-ht] at hjm hjn ho hP ZO
  have hlen:=J.len
  obtain ⟨cA,Yk,cg,cm,cb,co,csp,cp,cn⟩:=c
  clear ht ok;obtain ⟨H₁,-,e1,e2,e3⟩:=J
  dsimp only at hjm hjn ho hP ZO H₁ e1 e2 e3 hlen
  subst e1 e2 e3
  have hsp0:0<i.sp:=au (a0 _) hj
  refine .mk Nat (λ s=>vK.mm M B ⟨cA,Yk,cg,cm,cb,co,s,i.p,i.num⟩) (λ s=>vK.zz S M B E ⟨cA,Yk,cg,cm,cb,co,s,i.p,i.num⟩) (λ s=>j<=s/\s<i.sp) id (i.sp-1) (bt (jS (bB hj)) (ai (nk hsp0 (by decide)) (aw _))) (Da (uj hsp0) rfl) d0 ?_
  rintro s ⟨hs1,hs2⟩-
  obtain ⟨y,hy⟩:∃y,S.row[s]? =some y:=⟨_,aB (ai hs2 Zd)⟩
  refine sv (l:=y) hy (E8 (mK (.tail _ (.head _))) ?_)
  by_cases hsj:s=j
  ·clear hjn hs1;subst hsj
   cases hjl.symm.trans hy
   refine .mk (λ h=>?_) λ V=>?_
   ·replace h:=decide_eq_true hjm▸h;exact (iP h).elim
   ·refine sv (l:=l) hy (cD (λ Xm=>?_) λ Xm=>?_)
    ·have Xm:co=1:=by have:(co:Int)-1=0:=Xm;exact fQ.mp (Int.eq_of_sub_eq_zero Xm)
     refine bt (aT rfl) λ D=>(u8 (bN (.head _)) (bN (.tail _ (.head _))) (by refine ah (ag ..) (?_:1+cb.length<=_);exact Q6 hlen W9 hbz) λ Wj=>?_)
     exact lg (l_ (.cons_cons _ (.cons _ (.cons _ (.cons _ (.refl _)))))) λ V=>q cA Yk cg (-l::cb) Wj H₁ (hP Xm)
    ·refine aH (ZO λ e=>Xm (((ah (show co=1 from e) rfl):(co:Int)-1=0))) λ c hc hLc=>?_
     exact m8 hc ⟨⟨cA,Yk,cg,cm,cb,co-1,s,l,c⟩,⟨⟨H₁,hLc⟩,hj⟩,(((ah (uj ho) rfl):sW _ (put (put (put (vK.mm M B ⟨cA,Yk,cg,cm,cb,co,s,i.p,i.num⟩) "open_ones" (vi ((co:Int)-1))) "pivot" (vi l)) "number" (vn c)) (vK.mm M B ⟨cA,Yk,cg,cm,cb,co-1,s,l,c⟩))),d0⟩
  ·refine .mk (λ h=>?_) λ h=>?_
   ·have h0:0<s:=Q5 hs1 hsj
    exact ⟨s-1,⟨Q4 hs2 hs1 hsj,((nk h0 (aK _)):s-1<s)⟩,Da (uj h0) rfl,d0⟩
   ·replace h:=(decide_eq_false (hjn s y (Q3 hs1 hsj) hs2 hy))▸h;exact (v8 h).elim
end
end
section
section
variable{G:Gx}{A A' :Ad}{S S' :SS}{E E' :List (Addr×ba)}{n:Nat}{z:Zs}{Q:VQ}
theorem gE(hs:E.Sublist E₁)(h:∀E',p∈E' ->E.Sublist E' ->Q v (.s A S E')):Q v (.s A S (p::E₁)):=h _ (.head _) (hs.cons _)
theorem D4(hm:m.lookup x=some .me)(q:∀D,Q (.ref D) (.s A S ((D,.raw (kq (.ref 170) (.ref G.me)))::E))):iQ G (.Attribute (.Name x p) "height_of" pos) m (.s A S E) Q:=
 ⟨λ F U g (T:St G.me A S U E)=>Cc T (nE hm) λ D U' T' =>jt T' (q D)⟩
theorem uZ(hn:G.n=n+1+1)(hl:(l,.list (t.map vi))∈E)(hq:(q,.raw (kq (.ref 170) (.ref G.me)))∈E)(h64:t.length<64)(hh:∀x∈t,(lk S.heights x.natAbs).isSome)
  (h:∀D (τ:List Int),τ.Perm t->τ.Pairwise (λ x y=>md S y<=md S x)->Q (.ref D) (.s A S ((D,.list (τ.map vi))::E))):Pq G (.builtin "sorted") [.ref l] [bg "key",bg "reverse"] [.ref q,.bool true] (.s A S E) Q:=
 ⟨λ F m U (T:St G.me A S U E)=>ah hn (q_ T hl hq h64 hh λ D τ U' h1 h2 T' =>jt T' (h D τ h1 h2))⟩
theorem kh.cl{L:List Int->List Int->Nat->Nat->Int->Nat->Prop}{P:List Int->Prop}(K:kh S L P)(k:Nat):kh (S.sClashes k) L P:=⟨K.turn⟩
theorem Ag(h:(lk S.heights l.natAbs).isSome):lk S.heights l.natAbs=some (md S l):=by
 refine aS (cz.mp h) λ y hy=>?_
 unfold md;rewrite [hy];rfl
noncomputable def SS.lrn(S:SS)(hs:List (Int×Int))(g:Int):SS:=((S.sClashes (S.clashes+1)).sHeats hs).sGain g
theorem HJ{L:List Int->List Int->Nat->Nat->Int->Nat->Prop}{P:List Int->Prop}(hn:G.n=n+3)(K:S.begins≠[]->kh S L P/\L [] [] 0 S.row.length 0 number)(hP:∀t,P t->sG S t)(hl:S.lock=none)(R:Tr S)
  (XT:S.log.length<90000) (Zu:S.rows.length<90000) (Zt:Wz S 80000) (Zc:S.row.length<90000)
  (q1:S.begins=[]->∀A',Q .none (.s A' (ph (S.sClashes (S.clashes+1))) E))
  (q2:S.begins≠[]->∀A' hs g t d c τ g',P t->hs.map (·.1)=S.heats.map (·.1)->t=d::t.tail->vk t c->τ.Perm t.tail->τ.Pairwise (λ x y=>md S y<=md S x)->Q .none (.s A' ((mT (S.lrn hs g) d c τ).sGain g') E)):la G 177 [.ref G.me,vn number] (.s A S E) Q:=by
 refine enter hn ["self","number"] [.me,.v (vn number)] rfl rfl rfl (λ vs h=>by refine fM (ma h) λ V V Uv=>?_;subst Uv;rfl) rfl ?_
 refine iA (cD (λ hb=>?_) λ hb=>?_)
 ·have hb:S.begins=[]:=dR (fQ.mp hb)
  exact wV rfl (bz XT (by decide)) λ A' V=>h_ (q1 hb A')
 ·have hb:S.begins≠[]:=λ e=>hb (((ah e rfl):((S.begins.length:Nat):Int)=0))
  refine aP (K hb) λ K1 K2=>(ER rfl (K1.cl _) hl K2 λ VG hs g t D H hPt=>?_)
  have W:=hP t hPt
  obtain ⟨d,tl,ht⟩:∃d tl,t=d::tl:=kP W.ne
  refine bt (Af ym) (qo rfl (.head _) rfl W.len (λ h=>absurd W.pw h) λ V c D3 hc=>(sw rfl (bz XT (by decide)) λ YX hA4=>?_))
  subst ht
  have ZJ:=W.rng d (.head _)
  have h64:tl.length<64:=Nat.lt_of_succ_lt W.len
  have h65:((d::tl).map vi).length<=10000000:=ah (ag ..) (ac (aG W.len) (by decide))
  refine u4 (λ h=>(bH h).elim) (bN (.head _)) h65 λ D5=>(u4 (λ h=>(bH h).elim) (bN (.tail _ (.head _))) h65 λ D6=>(ah (show lL ((d::tl).map vi) none (some 1) none=[vi d] from jX _ 1) (ah (show lL ((d::tl).map vi) (some 1) none none=tl.map vi from pick_from _ 1) (D4 rfl λ D7=>(uZ rfl (.tail _ (.head _)) (.head _) h64 W.hts λ D8 τ hp ho=>?_)))))
  have WF:=hp.length_eq
  have hτr:∀l∈d::τ,-1000<=l/\l<=1000:=λ l hl=>(aM.mp hl).elim (λ e=>e▸ZJ) λ hl=>W.rng l (.tail _ (hp.mem_iff.mp hl))
  refine u8 (bN (.tail _ (.tail _ (.tail _ (.head _))))) (bN (.head _)) (ah (ag ..) (ah WF (((aG (ai (iw h64 _) (ac (aw _) (af _ _)))):1+tl.length<=_)))) λ D9=>?_
  refine gE (E:=E) (((((vF E).cons _).cons _).cons _).cons _ |>.cons _) λ E9 h9 hs9=>?_
  have h9:(D9,ba.list ((d::τ).map vi))∈E9:=h9
  have hln:((d::τ).map vi).length=tl.length+1:=ae (ag ..) (ae bM (ah WF rfl))
  have hR:Tr ((S.lrn hs g).sLog (S.log++[c])):=⟨R.nd,R.kn⟩
  have hlz:tl.length+1<=1000000:=ac (bB h64) (ac (aw _) (af _ _))
  have Q2:=λ A' τ hp ho g' =>q2 hb A' hs g (d::tl) d c τ g' hPt H.k rfl hc hp ho
  have Wl:=pN ((S.lrn hs g).sLog (S.log++[c]))
  have hr1:∀k,(cP ((S.lrn hs g).sLog (S.log++[c])) k).rows=S.rows:=su _
  have hw1:∀k,(cP ((S.lrn hs g).sLog (S.log++[c])) k).watch=S.watch:=qW _
  have hhg:∀x,md ((S.lrn hs g).sLog (S.log++[c])) x=md S x:=λ V=>rfl
  have h1d:((d::τ).map vi)[0]? =some (vi d):=rfl
  have hlz7:((d::τ).map vi).length<=1000000:=hln▸hlz
  cases τ with
  | nil=>
   refine jA (bN h9) hln hlz (cD (λ h=>?_) λ V=>?_)
   ·have h:((tl.length+1:Nat):Int)>1:=h
    replace h:=dc WF▸h;cases h
   refine nL (k:=0) rfl hR λ VP Yz=>(ke (j:=0) (bN h9) hlz7 h1d (jA (bN h9) hln hlz (cD (λ h=>?_) λ V=>?_)))
   ·have h:((tl.length+1:Nat):Int)>1:=h
    replace h:=dc WF▸h;cases h
   exact sj (c:=none) rfl ZJ (au (Wl 0) (bz Zc (by decide))) (u6 (by decide) (by decide) (lg (l_ hs9) λ V=>Q2 VP [] hp ho _))
  | cons x VB =>
   have hgt1:((tl.length+1:Nat):Int)>1:=dt WF (ah bM (bQ.mpr (bO (af _ _))))
   have h2d:((d::x::VB).map vi)[1]? =some (vi x):=rfl
   refine jA (bN h9) hln hlz (cD (λ V=>(ke (j:=1) (bN h9) hlz7 h2d (wW rfl (Ag (W.hts x (hp.mem_iff.mp (.head _)))) (nL (k:=md S x) rfl hR λ VP Yz=>(ke (j:=0) (bN h9) hlz7 h1d (jA (bN h9) hln hlz (cD (λ V=>(ES rfl h9 hτr (dt (ag (f:=vi)) (ah hln (ac (bB h64) (ac (aw _) (af _ _))))) (au (aC (congrArg lz (hr1 _))) (bz Zu (by decide))) (λ l=>ac (aC (congrArg (λ W=>((lk W l).getD []).length) (hw1 _))) (ac (Zt l) (by decide))) λ YW hA7=>?_)) λ h=>absurd hgt1 h))))))) λ h=>absurd hgt1 h)
   refine sj (c:=some (cP ((S.lrn hs g).sLog (S.log++[c])) (md S x)).rows.length) rfl ZJ (ah (BG ..) (au (Wl _) (bz Zc (by decide)))) ?_
   exact u6 (by decide) (by decide) (lg (l_ hs9) λ V=>(((ah (hr1 ..) (Q2 YW (x::VB) hp ho _)):Q .none (.s YW ((ln (iy (cP ((S.lrn hs g).sLog (S.log++[c])) (md S x)) (d::x::VB)) d (some (cP ((S.lrn hs g).sLog (S.log++[c])) (md S x)).rows.length)).sGain _) E))))
end
end
section
section
variable{G:Gx}{A A' :Ad}{S S' :SS}{E E' :List (Addr×ba)}{n:Nat}{z:Zs}{Q:VQ}
theorem Ie(ht:jP D (.dict []) (.dict [(i,v)]) E E')(q:Q (.ref D) (.s A S E')):Sr G D i v (.s A S E) Q:=⟨λ U (T:St G.me A S U E)=>⟨T.at_ ht.mem,jt (T.turn ht) q⟩⟩
theorem KV(ht:jP d (.dict (pr f)) (.dict (pr (g.foldl pS f))) E E')(hz:f.length+g.length<=1000000)(q:Q .none (.s A S E')):nX G (.builtin "dict.update") [.ref d,.ref o] (.s A S ((o,.dict (pr g))::E)) Q:=
 ⟨λ F m U (T:St G.me A S U ((o,.dict (pr g))::E))=>by
  have hne:d≠o:=λ e=>(aY.mp T.nd).1 (aF.mpr ⟨_,ht.mem,e⟩)
  refine B7 (T.at_ (.tail _ ht.mem)) (T.at_ (.head _)) hne (ah (ag ..) (ah (ag ..) hz)) ?_
  exact ah (qN ..) (jt ((T.turn (.there ht)).subl (bC _ _)) q)⟩
theorem w8{Q:Zs->Prop}(hx:xs=bs.map vi)(q:∀A',(∀u,u≠ .blamed->A' u=A u)->Q (.s A' (S.sBlamed bs) E)):ON G "blamed" (.ref a) A S ((a,.tup xs)::E) Q:=
 ⟨λ U T=>Bv T hx λ A' U' hA T' =>jt T' (q A' hA)⟩
theorem BL(q:Q (.bool true) z):m_ G (bm .IsNot) (.ref a) .none z Q:=⟨λ F m U k=>yU ⟨z,k,q⟩⟩
theorem yE(q:Q (.bool false) z):m_ G (bm .IsNot) .none .none z Q:=⟨λ F m U k=>yV ⟨z,k,q⟩⟩
noncomputable def Tm(S:SS)(l:Int):List Int×List Int:=S.row.reverse.foldl (lQ S) ([l],[(l.natAbs:Int)])
structure OW(S:SS)(l:Int)(i:Nat)(p:List Int×List Int):Prop where
 e:p=(S.row.reverse.take i).foldl (lQ S) ([l],[(l.natAbs:Int)])
 fl:p.1.length<=1+i
 ml:p.2.length<=1+1000*i
theorem OW.step(J:OW S l i p)(h:S.row.reverse[i]? =some y)(e:lQ S p y=p')(h1:p'.1.length<=p.1.length+1)(h2:p'.2.length<=p.2.length+1000):OW S l (i+1) p' :=⟨(ah bw (ah h (ah gR (dt J.e e.symm)))),ac h1 (bJ J.fl),by have:=J.ml;exact ac h2 (bA this _)⟩
theorem B5(h:¬((y.natAbs:Int)∈p.2/\0<md S y)):lQ S p y=p:=if_neg h
theorem wZ(h:(y.natAbs:Int)∈p.2/\0<md S y)(ho:lk S.causes y.natAbs=some none):lQ S p y=(p.1++[y],p.2):=by
 unfold lQ
 exact ae (if_pos h) (ah ho rfl)
theorem wY(h:(y.natAbs:Int)∈p.2/\0<md S y)(ho:lk S.causes y.natAbs=some (some c))(hr:S.rows[c]? =some r):lQ S p y=(p.1,((r.map λ x=>(x.natAbs:Int)).foldl pS []).foldl pS p.2):=by
 unfold lQ
 exact ae (if_pos h) (ah ho (dt (j8 (d:=[]) hr) rfl))
theorem HM(hn:G.n=n+2)(K:AO S)(hz:S.log.length<90000)
  (q:∀A' f,f=(Tm S l).1->(¬(f.map λ x=>-x).Pairwise (λ x y=>y≠-x)->Q .none (.s A' (S.sBlamed f) E))/\
   ((f.map λ x=>-x).Pairwise (λ x y=>y≠-x)->∀c,vk (f.map λ x=>-x) c->Q .none (.s A' ((S.sBlamed f).sLog (S.log++[c])) E))):la G 182 [.ref G.me,vi l] (.s A S E) Q:=by
 refine enter hn ["self","literal"] [.me,.v (vi l)] rfl rfl rfl (λ vs h=>by refine fM (ma h) λ V V Uv=>?_;subst Uv;rfl) rfl ?_
 refine bt (aT rfl) λ F D=>(Ie .here ?_)
 have hk:=K.len
 have hrl:S.row.reverse.length<=50:=ah List.length_reverse hk
 refine u4 (λ h=>by have Uy:=sI h;clear h;cases Uy) yk (ah (ag ..) (ac hk (af _ _))) λ R=>?_
 refine ah (show lL (S.row.map vi) none none (some (-1))=S.row.reverse.map vi from (DH _).trans (List.map_reverse ..).symm) (.mk R (.list (S.row.reverse.map vi)) _ (List Int×List Int) (λ V=>[("self",.me),("found",.v (.ref F)),("marked",.v (.ref D))]) (λ p=> .s A S ((R,.list (S.row.reverse.map vi))::(D,.dict (pr p.2))::(F,.list (p.1.map vi))::E))
  (OW S l) ([l],[(l.natAbs:Int)]) rfl rfl ⟨rfl,aw _,aw _⟩ rfl d0 (λ i p U V k=>dX (.head _) k) ?_ ?_)
 ·intro i p v hv J _
  refine aH (ij hv) λ y hy UB=>?_;subst UB
  have hi:i<50:=ai (al.mp hy).1 hrl
  have hym:y∈S.row:=GH.mp (am hy)
  refine aH (K.cau y hym) λ o hc1 hc2=>?_
  have stay:¬((y.natAbs:Int)∈p.2/\0<md S y)->OW S l (i+1) p:=λ h=>J.step hy (B5 h) (gm _) (ax _ _)
  have Xb:=J.fl
  have hml:=J.ml
  refine Jr (mK (.tail _ (.head _))) (cD (λ c1=>(jN (Ag (K.hts y hym)) (cD (λ c2=>?_) λ c2=>cF ⟨p,stay λ h=>c2 (bQ.mpr h.2),rfl,d0⟩))) λ c1=>cF ⟨p,stay λ h=>c1 h.1,rfl,d0⟩)
  have c3:(y.natAbs:Int)∈p.2/\0<md S y:=⟨c1,bQ.mp c2⟩
  refine cT (m8 hc1 (Mx ?_))
  cases o with
  | none=>
   refine cT (bt (Af (bN (.tail _ (.tail _ (.head _))))) (y9 (.there (.there .here)) (by refine ah (ag ..) ?_;exact QZ hi Xb) ⟨_,J.step hy (wZ c3 hc1) (ah aA (aw _)) (ax _ _),rfl,?_⟩))
   exact ((ah aE d0):jm _ (.s A S (_::_::(F,.list (p.1.map vi++[vi y]))::E)) (.s A S (_::_::(F,.list ((p.1++[y]).map vi))::E)))
  | some c=>
   refine aH (hc2 c rfl) λ r hr W9=>(cF (bt (Hf (mK (.tail _ (.head _)))) (m8 hc1 (nP (al.mp hr).1 (.mk (A (.rowL c)) (.list (r.map vi)) _ (λ i ys=>ys=pr (((r.take i).map λ x=>(x.natAbs:Int)).foldl pS [])) rfl rfl (ah (ag ..) (ac W9 (af _ _))) rfl (λ U k=>we rfl hr k) (λ q ys w hw hys=>?_) λ ys hys b=>?_)))))
   ·refine aH (ij hw) λ y Wq UC=>?_;subst UC
    exact ⟨d0,(ah hys (ae (qJ ..) (ah bw (ah Wq (ah aE (ah gR rfl))))))⟩
   ·have hbl:=qq (r.map λ x=>(x.natAbs:Int)) []
    have Xc:=qq ((r.map λ x=>(x.natAbs:Int)).foldl pS []) p.2
    replace hbl:=j1▸(ag ..)▸hbl
    subst hys
    exact ah (ag ..) (ah bn (KV (.there .here) (QY hi hbl hml W9) ⟨_,J.step hy (wY c3 hc1 hr) (gm _) (by refine (?_:(List.foldl pS p.2 _).length<=_);exact QX hbl Xc W9),rfl,d0⟩))
 ·intro p J ⟨U,ok⟩
  have XT:=(mM ok).z10
  have he:=J.e
  have Xb:=J.fl
  replace Xb:=(ag ..)▸Xb
  replace he:=bn▸(ag ..)▸he
  obtain ⟨fd,mk⟩:=p
  have hq:=λ A' =>q A' fd (congrArg JE he)
  have h64:fd.length<64:=au Xb (ai (vA (aK _) hrl) (ac (aw _) (af _ _)))
  refine m6 (bN (.tail _ (.tail _ (.head _)))) (ah (ag ..) (aG (ai h64 (af _ _)))) λ X6=>?_
  refine w8 rfl λ UZ W5=>(.mk F (.list (fd.map vi)) _ Unit (λ V=> .s UZ (S.sBlamed fd) ((R,.list (S.row.reverse.map vi))::(D,.dict (pr mk))::(F,.list (fd.map vi))::E)) (λ i ys V=>ys=((fd.take i).map λ x=>-x).map vi) () rfl rfl (ah (ag ..) (aG (ai h64 (af _ _)))) rfl d0 (λ i ys V U V k=>dX (.tail _ (.tail _ (.head _))) k) (λ i ys V w hw hys V=>?_) λ ys V hys V b=>?_)
  ·refine aH (ij hw) λ y Wq UF=>?_;subst UF
   exact ⟨(),(ah hys (ah bw (ah Wq (ah aE (ah aE rfl))))),d0⟩
  ·subst hys
   refine ah (ag ..) (ah bn (qo rfl (.head _) rfl (ah (ag ..) h64) (λ hp=>?_) λ hp c Wj hc=>?_))
   ·exact yE (cF (lg (l_ (.cons _ (.cons _ (.cons _ (.cons _ (.refl _)))))) λ V=>(hq UZ).1 hp))
   ·exact BL (cT (bt (Af ym) (sw rfl (bz hz (by decide)) λ VG XN=>(lg (l_ (.cons _ (.cons _ (.cons _ (.cons _ (.refl _)))))) λ V=>(hq VG).2 hp c hc))))
end
end
section
section
variable{G:Gx}{A A' :Ad}{S S' :SS}{E E' :List (Addr×ba)}{n:Nat}{z:Zs}{Q:VQ}
theorem Ff{us vs:List Int}(ha:∀U,z.ok G U->U.rd a=some (.tup xs))(hb:∀U,z.ok G U->U.rd b=some (.tup ys))(hx:xs=us.map vi)(hy:ys=vs.map vi)(q:∀r:Bool,Q (.bool r) z):m_ G (bm .Gt) (.ref a) (.ref b) z Q:=
 ⟨λ F m U k=>by subst hx hy;exact wU (ha U k) (hb U k) λ r=>⟨z,k,q r⟩⟩
theorem w5(q:Q (.bool ((lk S.liked k).getD d)) (.s A S E)):nX G (.builtin "dict.get") [.ref (A .liked),vi k,.bool d] (.s A S E) Q:=
 ⟨λ F m U (T:St G.me A S U E)=>AC (T.rd .liked rfl (by intro _ _ h;cases h)) (by refine ah (gL ..) ?_;cases e:lk S.liked k<;>replace q:=e▸q<;>exact jt T q)⟩
theorem DE:∀U,Zs.ok G (.s A S E) U->U.rd (A .liked)=some (.dict (mh vb S.liked)):=kT .liked rfl (by intro _ _ h;cases h)
theorem m9(hz:S.begins.length<100000)(q:Q .none (.s A (S.sBegins (S.begins++[k])) E)):nX G (.builtin "list.append") [.ref (A .begins),vn k] (.s A S E) Q:=⟨λ F m U (T:St G.me A S U E)=>y_ T hz λ U' T' =>jt T' q⟩
structure Lm(S:SS)(i:Nat)(v:Int):Prop where
 h:OX S v ((S.heats.map (·.1)).take i)
theorem Lm.old(J:Lm S i v)(hk:(S.heats.map (·.1))[i]? =some k)(h:v=0->(lk S.known k).isSome):Lm S (i+1) v:=⟨(ah bw (ah hk (J.h.elim (λ a=> .inl ⟨a.1,λ j hj=>(az.mp hj).elim (a.2 j) λ hj=>aq.mp hj▸h a.1⟩) λ a=> .inr ⟨av _ a.1,a.2⟩)))⟩
theorem Lm.new(hk:(S.heats.map (·.1))[i]? =some k)(h:lk S.known k=none):Lm S (i+1) k:=⟨.inr ⟨(ah bw (ah hk (ak _ (.head _)))),h⟩⟩
theorem B0(hn:G.n=n+1)(hl:S.lock=none)(q:∀v,OX S v (S.heats.map (·.1))->Q (vi v) (.s A S E)):la G 189 [.ref G.me] (.s A S E) Q:=by
 refine enter hn ["self"] [.me] rfl rfl rfl (λ vs h=>by refine aS (wD h) λ V Uv=>?_;subst Uv;rfl) rfl ?_
 refine .heats A S E Int (λ v=>[("best",.v (vi v)),("self",.me)]) (Lm S) 0 rfl rfl hl ⟨.inl ⟨rfl,λ k hk=>nomatch hk⟩⟩ rfl (λ o i b k hk J=>?_) λ v J=>?_
 ·refine aS (mQ (am hk)) λ x hx=>(E6 mJ (ah (gL ..) (ah qb (?_:pz (.bool (!(lk S.known k).isSome)) _))))
  cases hkn:lk S.known k with
  | some y=>exact cF ⟨b,J.old hk λ V=>ah hkn rfl,rfl,d0⟩
  | none=>
   have hnew:Lm S (i+1) k:=.new hk hkn
   refine cT (cD (λ h0=>cT ⟨k,hnew,rfl,d0⟩) λ h0=>?_)
   have hbB:b∈(S.heats.map (·.1)).take i/\lk S.known b=none:=J.h.elim (λ h=>absurd h.1 h0) id
   exact aS (mQ ((cH _ _) hbB.1)) λ z hz=>(kg (b:=x) hx (bt (aT rfl) λ X6=>(kg (b:=z) hz (bt (aT rfl) λ Wj=>(Ff (us:=[x,-k]) (vs:=[z,-b]) (kI (.tail _ (.head _))) (kI (.head _)) rfl rfl λ r=>(.mk (λ V=>cT ⟨k,hnew,rfl,Dc⟩) λ V=>cF ⟨b,J.old hk λ e=>absurd e h0,rfl,Dc⟩))))))
 ·have h:=J.h
  rewrite [<-ag (f:=(·.1))] at h;replace h:=bn▸h
  exact h_ (q v h)
theorem EU{P:SS->Option Bool->Prop}(hn:G.n=n+3)(K:xo S as P)(ha:(a,.list (as.map vi))∈E)(F:nS S)
  (q:∀A' S' o,P S' o->Q (xP o) (.s A' S' E)):la G 196 [.ref G.me,.ref a] (.s A S E) Q:=by
 refine enter hn ["self","assumptions"] [.me,.v (.ref a)] rfl rfl rfl (λ vs h=>by refine fM (ma h) λ V V Uy=>?_;subst Uy;rfl) rfl ?_
 have hlen:(as.map vi).length=as.length:=ag ..
 have hzr:S.row.length<100000:=bz K.b1 (by decide)
 have hzb:S.begins.length<100000:=bz K.b2 (by decide)
 have rest:∀l,-1000<=l/\l<=1000->P (lp S l) none->(says S l=none->P (ln (S.sBegins (S.begins++[S.row.length])) l none) none)/\∀b,says S l=some b->P (S.sBegins (S.begins++[S.row.length])) none:=λ l hl hp=>by
  unfold lp at hp
  cases e:says S l with
  | none=>replace hp:=e▸hp;exact ⟨λ V=>hp,λ V h=>nomatch h⟩
  | some b=>replace hp:=e▸hp;exact ⟨λ h=>(nomatch h),λ V V=>hp⟩
 refine iA (jA (bN ha) hlen (ac K.b4 (by decide)) (cD (λ hc=>?_) λ hc=>?_))
 ·have hc:S.begins.length<as.length:=bQ.mp hc
  obtain ⟨l,hl⟩:∃l,as[S.begins.length]? =some l:=⟨_,aB hc⟩
  have hlr:=K.b5 l (am hl)
  refine aP (K.asm l hl) λ q1 q2=>(iA (ke (v:=vi l) (bN ha) (ah hlen (ac K.b4 (by decide))) (ae ay (ah hl rfl)) ?_))
  refine kX rfl (uP ((⟨λ hs=>?_,λ hs=>?_⟩:xD (says S l==some false) _ _)))
  ·refine ck (q1 (df hs)) λ B1 B2 B3=>(HM rfl B1 K.b3 λ A' f hf=>?_)
   subst hf
   exact ⟨λ hp=>h_ (q A' _ (some false) (B2 hp)),λ hp c hc=>h_ (q A' _ (some false) (B3 hp c hc))⟩
  ·refine aP (rest l hlr (q2 (ne_of_beq_false hs))) λ r1 r2=>(bt (Af nB) (kd (m9 hzb (kX rfl (ql (?_:xD (says S l).isNone _ _))))))
   cases e:says S l with
   | none=>exact cT (sj (c:=none) rfl hlr hzr (h_ (q A _ none (r1 e))))
   | some b=>exact cF (h_ (q A _ none (r2 b e)))
 ·have hc:as.length<=S.begins.length:=b0 λ h=>hc (bQ.mpr h)
  refine aP (K.free hc) λ q1 q2=>(B0 rfl K.lock λ v hB=>(cD (λ h0=>?_) λ h0=>?_))
  ·exact h_ (q A S (some true) (q1 (hB.elim And.right λ h=>absurd (K.keys v h.1) (by refine ah h0 ?_;decide))))
  ·refine aP (hB.resolve_left λ h=>h0 h.1) λ h1 h2=>?_
   have hv2:=F.v5.2 v h1
   refine bt (Hf DE) (w5 ?_)
   have hd:∀l,l=v\/l=-v->-1000<=l/\l<=1000:=λ l hl=>QW hv2 hl
   refine .mk (λ V=>?_) λ V=>?_
   ·have hl:=hd v (.inl rfl)
    refine aP (rest _ hl (q2 v h1 h2 _ (.inl rfl))) λ r1 r2=>(bt (Af nB) (kd (m9 hzb (kX rfl (ql (?_:xD (says S v).isNone _ _))))))
    cases e:says S v with
    | none=>exact cT (sj (c:=none) rfl hl hzr (h_ (q A _ none (r1 e))))
    | some b=>exact cF (h_ (q A _ none (r2 b e)))
   ·have hl:=hd (-v) (.inr rfl)
    refine aP (rest _ hl (q2 v h1 h2 _ (.inr rfl))) λ r1 r2=>(bt (Af nB) (kd (m9 hzb (kX rfl (ql (?_:xD (says S (-v)).isNone _ _))))))
    cases e:says S (-v) with
    | none=>exact cT (sj (c:=none) rfl hl hzr (h_ (q A _ none (r1 e))))
    | some b=>exact cF (h_ (q A _ none (r2 b e)))
end
end
section
section
variable{G:Gx}{A A' :Ad}{S S' :SS}{E E' :List (Addr×ba)}{n:Nat}{z:Zs}{Q:VQ}
theorem ua(hl:S.lock=none)(h0:0<=k/\k<=1000)(q:∀v,Q v (.s A (S.sHeats (if (lk S.heats k).isSome then S.heats else ins S.heats k 0)) E)):nX G (.builtin "dict.setdefault") [.ref (A .heats),vi k,vi 0] (.s A S E) Q:=⟨λ F m U (T:St G.me A S U E)=>Dx T hl h0 λ v U' T' =>jt T' (q v)⟩
theorem tU(hl:S.lock=none):Ry G (.ref (A .heats)) (.s A S E):=Hf (kT .heats (((ah hl rfl):some (lN S.lock _)=_)) (by intro _ _ h;cases h))
theorem qX(S:SS)(k:Nat):(cP S k).heats=S.heats/\(cP S k).lock=S.lock/\(cP S k).clashes=S.clashes/\(cP S k).log=S.log:=by
 unfold cP
 cases S.begins[k]? with
 | none=>exact ge rfl rfl rfl rfl
 | some b=>
  refine kJ (io (S.row.length-b) S) λ V V V e=>?_
  dsimp only
  exact ah e (ge rfl rfl rfl rfl)
structure Tp(I:SS->Nat->Prop)(Fin:SS->Bool->Prop)(p:Ad×SS×Option Bool×Nat):Prop where
 h:(p.2.2.1=none/\∃q,p.2.2.2=q+1/\I p.2.1 q)\/∃b,p.2.2.1=some b/\Fin p.2.1 b
theorem HI{I:SS->Nat->Prop}{Fin:SS->Bool->Prop}(hn:G.n=n+4)(K:AM as S.clashes I Fin)(ha:(a,.list (as.map vi))∈E)(R:Tr S)(hl:S.lock=none)(Vc:∀l∈as,-1000<=l/\l<=1000)
  (h0:I (((cP S 0).sBlamed []).sHeats (as.foldl CD S.heats)) k0) (q:∀A' S' b,Fin S' b->Q (.bool b) (.s A' S' E)):la G 203 [.ref G.me,.ref a] (.s A S E) Q:=by
 refine enter hn ["self","assumptions"] [.me,.v (.ref a)] rfl rfl rfl (λ vs h=>by refine fM (ma h) λ V V Uv=>?_;subst Uv;rfl) rfl ?_
 refine nL (k:=0) rfl R λ UZ V=>(fE (qX S 0) λ b1 b2 b3 V=>?_)
 replace b2:=hl▸b2
 generalize cP S 0=S₁ at h0 b1 b2 b3
 refine bt (a0 _) λ X6=>w8 (bs:=[]) rfl λ VG V=>(.mk a (.list (as.map vi)) _ (List (Int×Int)) (λ V=>[("self",.me),("assumptions",.v (.ref a))]) (λ hs=> .s VG ((S₁.sBlamed []).sHeats hs) E) (λ i hs=>hs=(as.take i).foldl CD S.heats) S.heats rfl rfl rfl rfl (A9 (congrArg (SS.sHeats (S₁.sBlamed [])) b1)) (λ i hs U V k=>dX ha k) ?_ ?_)
 ·intro i hs v hv e _
  refine aH (ij hv) λ l hl1 Uy=>?_;subst Uy
  exact bt (tU b2) (ua b2 (LO (Vc l (am hl1))) λ w=>⟨CD hs l,(ah bw (ah hl1 (ah gR (dt e rfl)))),rfl,d0⟩)
 ·intro hs e _
  replace e:=bn▸(ag ..)▸e
  subst e
  refine .mk (Ad×SS×Option Bool×Nat) (λ p=>[("self",.me),("assumptions",.v (.ref a)),("begun",.v (vn S.clashes)),("rested",.v (vn S.clashes)),("span",.v (vi 16)),("told",.v (xP p.2.2.1))]) (λ p=> .s p.1 p.2.1 E) (Tp I Fin) (λ p=>p.2.2.2) (VG,_,none,k0+1) ⟨.inl ⟨rfl,k0,rfl,h0⟩⟩ (by refine (?_:_=_);exact dt b3 rfl) d0 ?_
  intro UB UC UF;obtain ⟨A,Vb,told,k⟩:=UB;obtain ⟨J⟩:=UC;obtain ⟨U,ok⟩:=UF
  dsimp only at J
  rcases J with ⟨rfl,k,rfl,hI⟩ | ⟨b,rfl,hF⟩
  ·refine is_none (cT ⟨λ hr=>cT ?_,λ hr=>cF ?_⟩)
   ·have hr:Vb.refuted=false:=by cases h:Vb.refuted with
     | true=>replace hr:=h▸hr;exact (iP hr).elim
     | false=>rfl
    refine r_ (K.turn Vb k hI (mM ok) hr) λ Js Ms Ps K1 K2 K3 K4=>(EQ rfl K1 K2 (λ A₅ WR hJ Xk F=>?_) λ A₅ WR i hP F=>?_)
    ·refine fE (K4 WR hJ F Xk) λ q1 q2 q3 q4=>(cD (λ h=>absurd h (by decide)) λ V=>(cD (λ h=>?_) λ V=>?_))
     ·have h:0<WR.limit:=h
      replace h:=q3▸h;cases h
     refine cF (cD (λ h=>?_) λ V=>?_)
     ·have h:(WR.clashes:Int)-S.clashes>=16:=h
      lia
     refine EU rfl q4 ha F λ VP YU o hP=>?_
     cases o with
     | none=>
      refine aH hP λ k' hk' Wu =>?_;clear hP
      exact ⟨(VP,YU,none,k' +1),⟨⟨.inl ⟨rfl,k',rfl,Wu⟩⟩,sL hk'⟩,rfl,d0⟩
     | some b=>exact ⟨(VP,YU,some b,0),⟨⟨.inr ⟨b,rfl,hP⟩⟩,dN _⟩,rfl,d0⟩
    ·refine KA (K3 WR i hP F) λ L PL r1 r2 r3 r4 r5 r6 r7 r8 r9 r10=>?_
     refine cD (λ V=>?_) λ h=>absurd (bG i) h
     refine HJ rfl r1 r2 r3 r4 r5 r6 r7 r8 (λ hb VP=>?_) λ hb VP hs g t d c τ g' p1 p2 p3 p4 p5 p6=>?_
     ·refine aH (r9 hb) λ k' hk' Wu =>?_
      exact ⟨(VP,_,none,k' +1),⟨⟨.inl ⟨rfl,k',rfl,Wu⟩⟩,sL hk'⟩,rfl,d0⟩
     ·refine aH (r10 hb _ t d c τ g' p1 ⟨hs,g,p2,rfl⟩ p3 p4 p5 p6) λ k' hk' Wu =>?_
      exact ⟨(VP,_,none,k' +1),⟨⟨.inl ⟨rfl,k',rfl,Wu⟩⟩,sL hk'⟩,rfl,d0⟩
   ·have hr:Vb.refuted=true:=by cases h:Vb.refuted with
     | true=>rfl
     | false=>replace hr:=h▸hr;exact (v8 hr).elim
    refine uP (o:=none) ?_
    exact h_ (q A Vb false (K.refd _ _ hI hr))
  ·refine is_bool (cF (cF ?_))
   refine eq_bool (i:=b) ?_
   refine h_ ?_
   refine ah (show (b==true)=b from by clear hF ok;cases b<;>rfl) ?_
   exact q A Vb b hF
end
end
section
section
variable{G:Gx}{A A' :Ad}{S S' :SS}{E E' :List (Addr×ba)}{n:Nat}{z:Zs}{Q:VQ}
noncomputable def JN:Value->Bool
 | .bool b=>b
 | _=>false
theorem C9(o:Option Bool):JN (xP o)=(o==some true):=by cases o with
 | none=>rfl
 | some b=>cases b<;>rfl
theorem Fe{c:List Int}(hn:G.n=n+1)(h:(a,.list (c.map λ l=>xP (says S l)))∈E)(q:Q (.bool (c.any λ l=>says S l==some true)) (.s A S E)):m_ G (bm .In) (.bool true) (.ref a) (.s A S E) Q:=
 ⟨λ F m U (T:St G.me A S U E)=>by
  refine ah hn (qV (e:=JN) (bN (G:=G) h U T) (λ y hy=>?_) ?_)
  ·refine aH (aF.mp hy) λ l V Uv=>?_;subst Uv
   cases hs:says S l with
   | none=>exact ti.none_bool true
   | some b=>(try clear hs);cases b<;>exact ti.bools _ _
  ·exact ah ky (ah (show JN∘(λ l=>xP (says S l))=λ l=>says S l==some true from funext λ l=>C9 _) (jt T q))⟩
inductive OM(ls:List Int)(E:List (Addr×ba)):Value->List (Addr×ba)->Prop where
 | no (h:¬ls.Pairwise λ x y=>y≠-x):OM ls E .none E
 | so (h:ls.Pairwise λ x y=>y≠-x) (c:List Int) (D:Addr) (o:vk ls c):OM ls E (.ref D) ((D,.tup (c.map vi))::E)
theorem OM.sub(h:OM ls E v E'):E.Sublist E' :=by
 cases h with
 | no _=>exact .refl _
 | so _ _ _ _=>exact bC _ _
theorem pM(hn:G.n=n+2)(ha:(a,ao)∈E)(hi:fy ao=some (ls.map vi))(R:Tr S)(hl:S.lock=none)(hz:ls.length<60)(Vc:∀l∈ls,-1000<=l/\l<=1000)
  (XT:S.log.length<90000) (Zu:S.rows.length<90000) (Zt:Wz S 80000) (Zc:S.row.length<90000)
  (q1:¬ls.Pairwise (λ x y=>y≠-x)->∀A',Q (.bool (!(fL S ls).refuted)) (.s A' (fL S ls) E))
  (q2:ls.Pairwise (λ x y=>y≠-x)->∀c A',vk ls c->Q (.bool (!(Ft (fL S ls) c).refuted)) (.s A' (Ft (fL S ls) c) E)):la G 123 [.ref G.me,.ref a] (.s A S E) Q:=by
 refine enter hn ["self","literals"] [.me,.v (.ref a)] rfl rfl rfl (λ vs h=>by refine fM (ma h) λ V V Uy=>?_;subst Uy;rfl) rfl ?_
 refine nL (k:=0) rfl R λ UZ V=>(fE (qX S 0) λ b1 b2 V b4=>?_)
 have b5:=su S 0
 have b6:=qW S 0
 have b7:=pN S 0
 replace b2:=hl▸b2
 unfold fL at q1 q2
 refine (?_:la _ _ _ _ _)
 generalize cP S 0=S₁ at q1 q2 b1 b2 b4 b5 b6 b7
 have ord:∀{G:Gx} {Q:VQ} {n:Nat},G.n=n+1->(∀v E',OM ls E v E' ->Q v (.s UZ S₁ E'))->la G 62 [.ref a] (.s UZ S₁ E) Q:=λ hn k=>qo hn ha hi (bz hz (by decide)) (λ h=>k _ _ (.no h)) λ h c D o=>k _ _ (.so h c D o)
 refine ord rfl λ v E2 hv=>?_
 have hE:=hv.sub
 refine .mk a ao (ls.map vi) (List (Int×Int)) (λ V=>[("self",.me),("literals",.v (.ref a)),("clause",.v v)]) (λ hs=> .s UZ (S₁.sHeats hs) E2) (λ i hs=>hs=(ls.take i).foldl CD S.heats) S.heats rfl hi rfl rfl (A9 (congrArg S₁.sHeats b1)) (λ i hs U V k=>dX (hE.subset ha) k) ?_ ?_
 ·intro i hs v hv e _
  refine aH (ij hv) λ l hl1 UB=>?_;subst UB
  exact bt (tU b2) (ua b2 (LO (Vc l (am hl1))) λ w=>⟨CD hs l,(ah bw (ah hl1 (ah gR (dt e rfl)))),rfl,d0⟩)
 intro hs e _
 replace e:=bn▸(ag ..)▸e
 subst e
 refine (?_:BI _ _ _ _ _ (.s UZ (S₁.sHeats _) E2))
 generalize hS:S₁.sHeats (ls.foldl CD S.heats)=UH
 have hS' :((S₁.uHeats (ls.foldl CD S.heats)):SS)=UH:=hS
 rw [hS'] at q1 q2
 clear hS'
 have f1:UH.log.length<90000:=dt hS (b4▸XT)
 have f2:UH.rows.length<90000:=dt hS (b5▸Zu)
 have f3:Wz UH 80000:=dt hS (λ x=>b6▸Zt x)
 have f4:UH.row.length<90000:=dt hS (au b7 Zc)
 clear hS b1 b2 b4 b5 b6 b7
 cases hv with
 | no hp=>exact is_none (cT (cT (lg (l_ hE) λ V=>q1 hp UZ)))
 | so hp c D o=>
  have Q2:=λ A' =>q2 hp c A' o
  unfold Ft at Q2
  refine Kl (cF ⟨λ hr=>cT ?_,λ hr=>?_⟩)
  ·rewrite [if_pos (.inl hr)] at Q2
   exact lg (l_ hE) λ V=>Q2 UZ
  have hcl:c.length<=ls.length:=zF o.1 λ x hx=>(o.2.1 x).mp hx
  have hc6:(c.map vi).length<=1000000:=ah (ag ..) (aG (ai (au hcl hz) (ac (aw _) (af _ _))))
  refine .mk D (.tup (c.map vi)) _ Unit (λ V=> .s UZ UH ((D,.tup (c.map vi))::E)) (λ i ys V=>ys=(c.take i).map λ l=>xP (says UH l)) () rfl rfl hc6 rfl d0 (λ i ys V U V k=>dX (.head _) k) (λ i ys V w hw hys V=>?_) λ ys V hys V b=>?_
  ·refine aH (ij hw) λ y Wq UC=>?_;subst UC
   exact kX rfl ⟨(),(ah hys (ah bw (ah Wq (ah aE rfl)))),d0⟩
  replace hys:=bn▸(ag ..)▸hys
  subst hys
  refine Fe rfl (.head _) ⟨λ hany=>cT ?_,λ hany=>cF ?_⟩
  ·rewrite [if_pos (.inr hany)] at Q2
   exact lg (l_ (hE.cons _)) λ V=>Q2 UZ
  rewrite [if_neg (λ h=>h.elim (λ h=>by replace h:=hr▸h;exact (iP h).elim) λ h=>by replace h:=hany▸h;exact (iP h).elim)] at Q2
  refine .mk D (.tup (c.map vi)) _ Unit (λ V=> .s UZ UH ((D,.tup (c.map vi))::E)) (λ i ys V=>ys=((c.take i).filter λ l=>(says UH l).isNone).map vi) () rfl rfl hc6 rfl nU (λ i ys V U V k=>dX (.head _) k) (λ i ys V w hw hys V=>?_) λ ys V hys V b=>?_
  ·refine aH (ij hw) λ y Wq UF=>?_;subst UF
   have htk:c.take (i+1)=c.take i++[y]:=ae bw (ah Wq rfl)
   refine kX rfl (ql ⟨λ hs=>⟨(),?_,d0⟩,λ hs=>⟨(),?_,d0⟩⟩)
   ·exact ah hys (ah htk (ah (dZ ..) (ah cO (ah hs (ah aE rfl)))))
   ·exact ae hys (ah htk (ah (dZ ..) (ah cO (ah hs (congrArg _ (cw _).symm)))))
  replace hys:=bn▸(ag ..)▸hys
  have hys:ys=(mS UH c).map vi:=hys
  have hml:∀l∈mS UH c,-1000<=l/\l<=1000:=λ l hl=>Vc l ((o.2.1 l).mp (bx.mp hl).1)
  have hll:(mS UH c).length<=c.length:=gF _ _
  subst hys
  generalize mS UH c=lf at Q2 hml hll
  have h6:lf.length<=60:=ac (ac hll hcl) (aG hz)
  have h7:(lf.map vi).length=lf.length:=ag ..
  have hm:(b,ba.list (lf.map vi))∈(b,ba.list (lf.map vi))::(D,ba.tup (c.map vi))::E:=.head _
  have hsub:E.Sublist ((b,ba.list (lf.map vi))::(D,ba.tup (c.map vi))::E):=((vF _).cons _).cons _
  refine jA (bN hm) h7 (ac h6 (by decide)) (cD (λ h=>?_) λ h=>?_)
  ·have h:((lf.length:Nat):Int)=0:=h
   clear h6 h7 hll hm hml;cases dR (fQ.mp h)
   exact wV rfl (bz f1 (by decide)) λ A' V=>lg (l_ hsub) λ V=>Q2 A'
  have h:¬((lf.length:Nat):Int)=0:=h
  refine jA (bN hm) h7 (ac h6 (by decide)) (cD (λ h1=>?_) λ h1=>?_)
  ·have h1:((lf.length:Nat):Int)=1:=h1
   clear h h6 h7 hll;refine aS (mD.mp (fQ.mp h1)) λ l UP=>?_;subst UP
   exact ke (j:=0) (v:=vi l) (bN hm) (aT rfl) rfl (sj (c:=none) rfl (hml l (.head _)) (bz f4 (by decide)) (lg (l_ hsub) λ V=>Q2 UZ))
  ·have h1:¬((lf.length:Nat):Int)=1:=h1
   clear h7 hll;refine fM (kP λ e:lf=[]=>h (ah e rfl)) λ l lf UQ=>?_;subst UQ
   clear h;refine fM (kP λ e:lf=[]=>h1 (ah e rfl)) λ k r UT=>?_;subst UT
   exact ES rfl hm hml (ac h6 (by decide)) (bz f2 (by decide)) (λ x=>ac (f3 x) (by decide)) λ A' V=>lg (l_ hsub) λ V=>Q2 A'
end
end
section
section
variable{G:Gx}{A A' :Ad}{S S' :SS}{E E' :List (Addr×ba)}{n:Nat}{z:Zs}{Q:VQ}{me ns D:Addr}{o:ba}{attr:Str}{fs:List (Str×Value)}{R:List (Addr×ba)}
noncomputable def Zs.mk(me ns:Addr)(fs:List (Str×Value))(R:List (Addr×ba)):Zs:=.no ((ns,.ns fs)::(me,.inst 220 ns)::R)
inductive Pu(attr:Str)(me ns:Addr)(fs:List (Str×Value))(K:List (Str×Value)->List (Addr×ba)->Prop)(R:List (Addr×ba)):Value->Zs->Prop where
 | val (v:Value) (q:K (fs++[(attr,v)]) R):Pu attr me ns fs K R v (.no ((ns,.ns fs)::(me,.inst 220 ns)::R))
 | ob (D:Addr) (o:ba) (q:K (fs++[(attr,.ref D)]) ((D,o)::R)):Pu attr me ns fs K R (.ref D) (.no ((D,o)::(ns,.ns fs)::(me,.inst 220 ns)::R))
 | ob2 (D:Addr) (o:ba) (p:Addr×ba) (q:K (fs++[(attr,.ref D)]) ((D,o)::R)):Pu attr me ns fs K R (.ref D) (.no ((D,o)::p::(ns,.ns fs)::(me,.inst 220 ns)::R))
theorem Al:(p::q::r::R).Perm (q::r::p::R):=(jT q p _).trans ((jT r p _).cons q)
theorem nW(hm:m.lookup x=some (.v (.ref me)))(ha:sx.contains attr=true)(h3:nsLook attr fs=none)(h4:fs.length<=900)
  (h:(Wk k G).e e m (.mk me ns fs R) (Pu attr me ns fs (λ fs R=>QS .next m (.mk me ns fs R)) R)):l6 G (.Assign [.Attribute (.Name x p) attr p'] e pos) m (.mk me ns fs R) QS:=
 ⟨λ F U g ok=>by
  refine sF (by (try clear h);cases e<;>rfl) (((jH k).e h g ok).mono λ v U1 ⟨z,T,q⟩=>f_ (nE hm) ?_)
  have e:∃R',Fl U1 ((ns,.ns fs)::(me,.inst 220 ns)::R')/\QS .next m (.mk me ns (fs++[(attr,v)]) R'):=by
   cases q with
   | val v q=>exact bY _ T q
   | ob D o q=>exact bY _ (Fl.perm T Al) q
   | ob2 D o p q=>exact bY _ ((Fl.subl T ((bC _ _).cons_cons _)).perm Al) q
  refine aH e λ R' T q=>?_;clear e
  exact Ao me 220 ns fs rfl (T.xt _ (.tail _ (.head _))) (T.xt _ (.head _)) (Bp _) (RX _ (fk.mp ha)) h4 (ah (tI _ _ _ h3) ⟨m,.mk me ns (fs++[(attr,v)]) R',rfl,Fl.turn T .here,q⟩)⟩
theorem HG(hn:G.n=n+1)
  (q:∀K H Cs Rw B Lk,Q .none (.mk me ns [("known",.ref K),("heights",.ref H),("causes",.ref Cs),("row",.ref Rw),("begins",.ref B),("seen",vi 0),("liked",.ref Lk)] ((Lk,.dict [])::(B,.list [])::(Rw,.list [])::(Cs,.dict [])::(H,.dict [])::(K,.dict [])::E))):
  la G 76 [.ref me] (.mk me ns [] E) Q:=by
 refine enter hn ["self"] [.v (.ref me)] rfl rfl rfl (λ vs h=>by refine aS (wD h) λ V Uv=>?_;subst Uv;rfl) rfl ?_
 exact nW (k:=2) rfl rfl rfl (aT rfl) λ K=> .ob K _ (nW (k:=2) rfl rfl rfl (aT rfl) λ H=> .ob H _ (nW (k:=2) rfl rfl rfl (aT rfl) λ Cs=> .ob Cs _ (nW (k:=2) rfl rfl rfl (aT rfl) ⟨a0 _,λ Rw=> .ob Rw _ (nW (k:=2) rfl rfl rfl (aT rfl) ⟨a0 _,λ B=> .ob B _ (nW (k:=2) rfl rfl rfl (aT rfl) (.val _ (nW (k:=2) rfl rfl rfl (aT rfl) λ Lk=> .ob Lk _ (h_ (q K H Cs Rw B Lk)))))⟩)⟩)))
noncomputable def JR:List tg:=[.ns,.self,.blamed,.log,.heats,.watching,.rows,.liked,.begins,.row,.causes,.heights,.known]
noncomputable def JT:tg->Nat
 | .ns=>0
 | .self=>1
 | .blamed=>2
 | .log=>3
 | .heats=>4
 | .watching=>5
 | .rows=>6
 | .liked=>7
 | .begins=>8
 | .row=>9
 | .causes=>10
 | .heights=>11
 | _=>12
theorem rm(h:live (iY many) t):t∈JR:=by
 have e:JR[JT t]? =some t:=by
  cases t with
  | rowL i=>exact absurd h (ef _)
  | logT i=>exact absurd h (ef _)
  | wl l=>exact (iP h).elim
  | _=>rfl
 exact am e
theorem zY{α β:Type}{f:α->β}:∀{l:List α},(l.map f).Nodup->∀{x y},x∈l->y∈l->f x=f y->x=y
 | a::l,h,x,y,hx,hy,e=>by
  refine aP (aY.mp h) λ h1 h2=>?_
  cases hx with
  | head=>cases hy with
   | head=>rfl
   | tail _ hy=>exact absurd (e▸bo hy) h1
  | tail _ hx=>cases hy with
   | head=>exact absurd (e▸bo hx) h1
   | tail _ hy=>exact zY h2 hx hy e
theorem Hj(hA:A .self=me)(hm:many<=900)(T:Fl U (JR.map (λ t=>(A t,(fS A (iY many) t).getD (.tup [])))++E)):St me A (iY many) U E:=by
 have hnd:=T.nd
 replace hnd:=bI▸aE▸hnd
 exact ck (cU.mp hnd) λ n1 n2 n3=>⟨hA,⟨λ t o h=>T.xt (A t,o) (av _ (aF.mpr ⟨t,rm (eP.mpr ⟨o,h⟩),ah h rfl⟩)),λ t u ht hu e=>zY n1 (rm ht) (rm hu) e⟩,Hk hm,
  λ p hp=>⟨λ t ht e=>n3 _ (bo (rm ht)) _ (bo hp) e,T.xt p (ak _ hp)⟩,n2⟩
theorem GS{nm:List (Str×eH)}{names:List Str}{mvs:List MV}{τ:AH}(g:GF (G.sub n nm) F)(hd:names.Nodup)(ok:z.ok G τ)(h:(Wk 99 (G.sub n nm)).s rest (names.zip mvs) z (Po G Q)):
  WS (CX G.X) F n rest (BB (names.zip (mvs.map (MV.val G.me))) λ V=>none) τ λ fl V U' =>pv G Q (er (match fl with | .ret v=>v | _=> .none)) U' :=by
 refine WS.mem (((jH 99).s h g ok).bd (G:=G.sub n nm) λ fl m1 UG U1 Uw q=>?_) λ x v e=>uC ((rG _ _).nodup hd) (ae (rF ..) e)
 obtain ⟨UR,s₂,q⟩:=q
 have q:=q ⟨_,s₂ _ Uw⟩
 refine ⟨UR,s₂ _ Uw,?_⟩
 cases fl<;>exact q
theorem DL{vs:List Value}{K:Zs->Prop}{R:AH->Prop}(h:la G f vs z λ V z=>K z)(hk:∀z τ,z.ok G τ->K z->R τ)(ok:z.ok G U):WC (CX G.X) G.n f vs U λ V τ=>R τ:=
 (h.run U ok).mono λ v τ Uy=>by obtain ⟨z,k,q⟩:=Uy;exact hk z τ k q
noncomputable def LQ(i:Nat):List (Int×Value):=(bk i).map λ(j:Nat)=>((j:Int)+1,vi 0)
theorem Eg(i:Nat):dM (LQ i) (1+(i:Int)) (vi 0)=LQ (i+1):=by
 rewrite [lI]
 ·unfold LQ
  refine ah iG (ah aE ?_);rewrite [O7 1];rfl
 ·unfold LQ
  refine ah bI ?_
  intro hm
  refine aH (aF.mp hm) λ j hj e=>?_
  have:=bK.mp hj
  have e' :(j:Int)+1=1+i:=e
  lia
theorem Hl(many:Nat):LQ many=mh vi (iY many).heats:=by
 refine ((ah bI ?_):_=l7 _ (l7 _ _));rfl
theorem KO{a:Addr}{cas:List Addr}{cls:List (List Int)}{many:Nat}{I:Nat->SS->Prop}(hX:Rq G.X)(hn:G.n=n+4)(ha:(a,.list (cas.map .ref))∈E)(hlen:cas.length=cls.length)(hcl:∀(i:Nat) (c:Addr),cas[i]? =some c->∃ls:List Int,cls[i]? =some ls/\(c,.tup (ls.map vi))∈E)(hm:many<=900)
  (g0:I 0 (iY many)) (gs:∀(i:Nat) (S:SS) (ls:List Int),cls[i]? =some ls->I i S->nS S->Jy S ls (I (i+1))) (q:∀A S,I cls.length S->Q .none (.s A S E)):la G 118 [.ref G.me,.ref a,vn many] (.mk G.me ns [] E) Q:=⟨λ U ok=>by
 have T:Fl U ((ns,.ns [])::(G.me,.inst 220 ns)::E):=ok
 refine ah hn (FP (f2:=76) (names:=[bg "clauses",bg "many"]) (fs:=[]) rfl rfl rfl (λ vs h=>by refine kJ (BF h) λ V V V UB=>?_;subst UB;rfl) (by decide) (by decide) (by decide) rfl rfl rfl rfl rfl rfl ?kf rfl rfl rfl rfl rfl rfl hX.top (by rfl) rfl rfl rfl rfl (λ V=>rfl) (λ V=>rfl) (λ V=>by with_unfolding_all rfl) (T.xt _ (.tail _ (.head _))) (T.xt _ (.head _)) ?_)
 case kf=>
  have:=hX.file
  have h2:uN (KK G.X.w.params) 118=some _:=rfl
  replace this:=h2▸this
  exact dt (bq this) (beq_self_eq_true _)
 intro b
 refine DL (G:=G.sub (n+3) []) (z:=.mk G.me ns [] E) ?h (λ z τ ok q=>GS (mvs:=[.v (.ref G.me),.v (.ref a),.v (vn many)]) ⟨λ x k e V=>e,λ x e=> .inr e,rfl,rfl⟩ (by decide) ok q) ok
 case h=>
  refine HG rfl λ K H Cs Rw B Lk=>(nW (k:=2) rfl rfl rfl (aT rfl) ⟨a0 _,λ Rs=> .ob Rs _ (nW (k:=2) rfl rfl rfl (aT rfl) λ Wt=> .ob Wt _ (nW (k:=9) rfl rfl rfl (aT rfl) (pO (by decide) (QV hm) λ D=>?_)))⟩)
  have hrk:((many:Int)+1-1).toNat=many:=jK (many+1) 1
  refine ah hrk (.mk D (.rng 1 many) (fX 1 many) (λ i ys=>ys=LQ i) rfl rfl (ah (dp ..) (ac hm (af _ _))) rfl (λ U T=> .inl (Fl.xt T _ (.head _))) (λ i ys u hu e=>?_) λ ys e Ht=>?_)
  ·refine aP (jM hu) λ V UC=>?_;subst UC
   exact ⟨d0,e▸Eg i⟩
  replace e:=(dp ..)▸e
  refine ah e (ah (Hl ..) (.ob2 Ht _ _ (nW (k:=2) rfl rfl rfl (aT rfl) (.val _ (nW (k:=2) rfl rfl rfl (aT rfl) ⟨a0 _,λ Lg=> .ob Lg _ (nW (k:=2) rfl rfl rfl (aT rfl) (.val _ (nW (k:=2) rfl rfl rfl (aT rfl) ⟨a0 _,λ Bl=> .ob Bl _ (nW (k:=2) rfl rfl rfl (aT rfl) (.val _ (nW (k:=2) rfl rfl rfl (aT rfl) (.val _ (.mk a (.list (cas.map .ref)) _ (Ad×SS) (λ V=>[("self",.me),("clauses",.v (.ref a)),("many",.v (vn many))]) (λ p=> .s p.1 p.2 E) (λ i p=>I i p.2) (My G.me ns K H Cs Rw B Lk Rs Wt Ht Lg Bl,iY many) rfl rfl g0 rfl (λ U T=>Hj rfl hm T) (λ i p U V k=>dX ha k) ?_ ?_)))))⟩)))⟩)))))
  ·intro i p v hv hI ⟨U,ok⟩
   replace hv:=ay▸hv
   refine aH (aX.mp hv) λ c hc UF=>?_;subst UF
   refine aH (hcl i c hc) λ ls XF hcE=>?_
   have K:=gs i p.2 ls XF hI (mM ok)
   exact pM rfl hcE rfl K.tr K.lock K.len K.rng K.b1 K.b2 K.b3 K.b4 (λ hp A' =>⟨(A',_),K.no hp,rfl,d0⟩) λ hp c A' hc=>⟨(A',_),K.yes hp c hc,rfl,d0⟩
  ·intro p hI _
   replace hI:=hlen▸(ag ..)▸hI
   exact h_ (q p.1 p.2 hI)⟩
end
end
section
section
variable{C:Cx}{F:dD}{n:Nat}{m:Str->Option Value}{U U' :AH}{X:Sx}{P:Option (Addr×Ad×SS)}{E E' :List (Addr×ba)}{a b:Addr}{o o' :ba}
noncomputable abbrev dQ(cl:Addr)(k:Nat):ba:=.sdict [("cells",.ref cl),("spot",vn k)]
noncomputable def qh(bs:List Bool)(l:Int):Bool:=bs.getD (l.natAbs-1) false==decide (l>0)
end
end
section
section
variable{G:Gx}{A A' :Ad}{S S' :SS}{E E' :List (Addr×ba)}{n:Nat}{z z' :Zs}{Q:VQ}{fd cl:Addr}{cells:List Int}{k:Nat}
theorem AE(hi:i.natAbs<2^64)(q:Q (vi (i*j)) z):m_ G (fB .Mult) (vi i) (vi j) z Q:=⟨λ F m U ok=>J6 hi ⟨z,ok,q⟩⟩
theorem AF(hj:j≠0)(q:Q (vi (i.fmod j)) z):m_ G (fB .Mod) (vi i) (vi j) z Q:=⟨λ F m U ok=>J7 hj ⟨z,ok,q⟩⟩
theorem ry(h:∀U,z.ok G U->U.get a=some (.sdict kvs))(hk:iV kvs x=some v)(q:Q v z):FY G (.ref a) (.str x 0) z Q:=⟨λ F m U ok=>BR (e0 (h U ok) (by intro _ _ h;cases h)) hk ⟨z,ok,q⟩⟩
structure Fd(G:Gx)(fd cl:Addr)(cells:List Int)(k:Nat)(z z' :Zs):Prop where
 at0:∀U,z.ok G U->U.get fd=some (dQ cl k)
 put:∀U,z.ok G U->z'.ok G (U.put fd (dQ cl (k+1)))
 at1:∀U,z'.ok G U->U.get fd=some (dQ cl (k+1))
 at2:∀U,z'.ok G U->U.get cl=some (.list (cells.map vi))
 len:cells.length<=1000
 small:k<=100000
theorem Fd.sub{nm:List (Str×eH)}(K:Fd G fd cl cells k z z'):Fd (G.sub n nm) fd cl cells k z z' :=by
 obtain ⟨h1,h2,h3,h4,h5,h6⟩:=K
 cases z<;>cases z' <;>exact ⟨h1,h2,h3,h4,h5,h6⟩
theorem Fd.s(ht:jP fd (dQ cl k) (dQ cl (k+1)) E E')(hc:(cl,.list (cells.map vi))∈E')(hz:cells.length<=1000)(hk:k<=100000):Fd G fd cl cells k (.s A S E) (.s A S E'):=
 ⟨λ U T=>St.at_ T ht.mem,λ U T=>St.turn T ht,λ U T=>St.at_ T ht.mem',λ U T=>St.at_ T hc,hz,hk⟩
theorem Fd.no(ht:jP fd (dQ cl k) (dQ cl (k+1)) E E')(hc:(cl,.list (cells.map vi))∈E')(hz:cells.length<=1000)(hk:k<=100000):Fd G fd cl cells k (.no E) (.no E'):=
 ⟨λ U T=>Fl.xt T _ ht.mem,λ U T=>Fl.turn T ht,λ U T=>Fl.xt T _ ht.mem',λ U T=>Fl.xt T _ hc,hz,hk⟩
theorem Fd.rd(K:Fd G fd cl cells k z z'):∀U,z'.ok G U->U.rd cl=some (.list (cells.map vi)):=λ U ok=>e0 (K.at2 U ok) (by intro _ _ h;cases h)
theorem HY{Q:Zs->Prop}(K:Fd G fd cl cells k z z')(q:Q z'):FX G (.ref fd) (.str "spot" 0) (vi ((k:Int)+1)) z Q:=⟨λ F m U ok=>Bn (K.at0 U ok) (aT rfl) ⟨z',K.put U ok,q⟩⟩
theorem kY{Wy:Int}(hn:G.n=n+1)(K:Fd G fd cl cells k z z')(hw:0<Wy)(q:∀r,0<=r->r<Wy->Q (vi r) z'):la G 229 [.ref fd,vi Wy] z Q:=by
 refine enter hn ["feed","wide"] [.v (.ref fd),.v (vi Wy)] rfl rfl rfl (λ vs h=>by refine fM (ma h) λ V V Uv=>?_;subst Uv;rfl) rfl ?_
 have hr:∀x:Int,∀v,v=x.fmod Wy->Q (vi v) z' :=λ x v e=>e▸q _ (Int.fmod_nonneg_of_pos x hw) (Int.fmod_lt_of_pos x hw)
 have hk:=K.small
 have hl:=K.len
 have K:=λ nm=>K.sub (n:=n) (nm:=nm)
 refine ry (K _).at0 rfl (HY (K _) (ry (K _).at1 rfl ?_))
 have hl2:(cells.map vi).length=cells.length:=ag ..
 refine jA (K _).rd hl2 (ac hl (by decide)) (cD (λ hlt=>?_) λ hlt=>?_)
 ·have hlt:k<cells.length:=bQ.mp hlt
  refine ry (K _).at1 rfl (ke (v:=vi cells[k]) (K _).rd (ah hl2 (ac hl (by decide))) (ae ay (ah (aB hlt) rfl)) ?_)
  exact AF (O6 hw) (h_ (hr _ _ rfl))
 ·exact AE (by decide) (AE (by lia) (AE (by decide) (ry (K _).at1 rfl (jA (K _).rd hl2 (ac hl (by decide)) (AE (by decide) (AF (by decide) (AF (O6 hw) (h_ (hr _ _ rfl)))))))))
theorem y7(h:∀U,z.ok G U->U.rd a=some (.tup xs))(h0:0<=i)(hz:xs.length<=1000000)(hj:xs[i.toNat]? =some v)(q:Q v z):FY G (.ref a) (vi i) z Q:=⟨λ F m U k=>Hq (h U k) h0 (ac hz (af _ _)) hj ⟨z,k,q⟩⟩
theorem Mn(h:(a,o)∈E)(hr:∀ob v,o≠ .ro ob v):∀U,Zs.ok G (.no E) U->U.rd a=some o:=λ U T=>e0 (Fl.xt T _ h) hr
theorem zT(h:(a,.list xs)∈E):∀U,Zs.ok G (.no E) U->U.rd a=some (.list xs):=Mn h (by intro _ _ h;cases h)
theorem uv(h:(a,o)∈E)(k:Zs.ok G (.no E) U):U.sees a o:=.inl (Fl.xt k _ h)
theorem zU(ht:jP a (.list xs) (.list (xs++[v])) E E')(hz:xs.length<=1000000)(q:Q .none (.no E')):nX G (.builtin "list.append") [.ref a,v] (.no E) Q:=⟨λ F m U T=>lr (Fl.xt T _ ht.mem) (ac hz (af _ _)) ⟨.no E',Fl.turn T ht,q⟩⟩
theorem Me(h:E'.Sublist E):jm G (.no E) (.no E'):=λ V T=>Fl.subl T h
theorem IX(e:E=E'):jm G (.no E) (.no E'):=λ U k=>e▸k
structure OO(many i:Nat)(ls:List Int):Prop where
 len:ls.length=i
 rng:∀l∈ls,1<=l.natAbs/\l.natAbs<=many
theorem OO.step{r x:Int}(J:OO many i ls)(h0:0<=r)(h1:r<many)(hx:x.natAbs=(1+r).natAbs):OO many (i+1) (ls++[x]):=
 ⟨ae aA (ah J.len rfl),λ l hl=>(az.mp hl).elim (J.rng l) λ q=>by refine ah (aq.mp q) ?_;exact QU h0 hx h1⟩
theorem Mo:p::(D,ba.list (ls.map vi++[vi x]))::(fd,dQ cl (k+2*ls.length+1+1))::E=p::(D,ba.list ((ls++[x]).map vi))::(fd,dQ cl (k+2*(ls++[x]).length))::E:=ah aE (ah aA rfl)
theorem oK(hn:G.n=n+2)(hz:cells.length<=1000)(hk:k+2*count<=100000)(hm:1<=many)(hc:count<=100)
  (q:∀ls D,OO many count ls->Q (.ref D) (.no ((D,.list (ls.map vi))::(fd,dQ cl (k+2*count))::(cl,.list (cells.map vi))::E))):la G 236 [.ref fd,vn many,vn count] (.no ((fd,dQ cl k)::(cl,.list (cells.map vi))::E)) Q:=by
 refine enter hn ["feed","many","count"] [.v (.ref fd),.v (vn many),.v (vn count)] rfl rfl rfl (λ vs h=>by refine kJ (BF h) λ V V V Uy=>?_;subst Uy;rfl) rfl ?_
 refine bt (a0 _) λ D=>(m7 (ac hc (by decide)) λ R=>(.mk R (.rng 0 count) (fX 0 count) (List Int) (λ V=>[("feed",.v (.ref fd)),("many",.v (vn many)),("found",.v (.ref D))]) (λ ls=> .no ((R,.rng 0 count)::(D,.list (ls.map vi))::(fd,dQ cl (k+2*ls.length))::(cl,.list (cells.map vi))::E)) (OO many) [] rfl rfl ⟨rfl,λ l h=>nomatch h⟩ rfl (λ V T=>T) (λ i ls U V T=>uv (.head _) T) ?_ ?_))
 ·intro i ls v hv J _
  refine aP (jM hv) λ hi UB=>?_;clear UB
  have hl:=J.len
  have hmw:(0:Int)<(many:Int):=bQ.mpr hm
  refine kY rfl (.no (.there (.there .here)) (.tail _ (.tail _ (.tail _ (.head _)))) hz (QT hk hi hl)) hmw λ r h0 h1=>(bt (Af (zT (.tail _ (.head _)))) (kY rfl (.no (.there (.there .here)) (.tail _ (.tail _ (.tail _ (.head _)))) hz (QR hk hi hl)) (by decide) λ r' V V=>?_))
  have hll:(ls.map vi).length<=1000000:=ah (ag ..) (aG (ai (ya hl hi) (ac hc (af _ _))))
  exact .mk (λ V=>zU (.there .here) hll ⟨_,J.step h0 h1 rfl,rfl,IX Mo⟩) λ V=>zU (.there .here) hll ⟨_,J.step h0 h1 (b9 _),rfl,IX Mo⟩
 ·intro ls J _
  replace J:=(dp ..)▸J
  clear hc hk;obtain rfl:=J.len
  exact ⟨_,Me (bC _ _),λ V=>q ls D J⟩
theorem Az(hn:G.n=n+1)(hw:(w,.tup (bs.map .bool))∈E)(h1:1<=l.natAbs)(h2:l.natAbs<=bs.length)(hz:bs.length<=1000)(q:Q (.bool (qh bs l)) (.s A S E)):la G 243 [.ref w,vi l] (.s A S E) Q:=by
 refine enter hn ["world","literal"] [.v (.ref w),.v (vi l)] rfl rfl rfl (λ vs h=>by refine fM (ma h) λ V V UC=>?_;subst UC;rfl) rfl ?_
 have hg:(bs.map cf)[((l.natAbs:Int)-1).toNat]? =some (.bool (bs.getD (l.natAbs-1) false)):=ah (show ((l.natAbs:Int)-1).toNat=l.natAbs-1 from jK _ 1) (ae ay (ah bu (ah (aB (pp h1 h2)) rfl)))
 exact y7 (kI hw) (fH (bU.mpr h1)) (ah (ag ..) (ac hz (af _ _))) hg (eq_bool (h_ q))
end
end
section
noncomputable abbrev tB(bs:List Bool):ba:=.tup (bs.map .bool)
noncomputable def lC(ts:TL)(E:List (Addr×ba)):Prop:=∀e∈ts,(e.2,tB e.1)∈E
noncomputable def d_(ts:TL):List Value:=ts.map λ e=>aZ e.2
noncomputable abbrev lT(ts:TL):ba:=.list (d_ ts)
noncomputable def pR:Nat->List (List Bool)
 | 0=>[[]]
 | k+1=>(pR k).flatMap λ w=>[w++[false],w++[true]]
theorem pQ:∀(k:Nat) (w:List Bool),w∈pR k->w.length=k
 | 0,w,h=>by simp [pR] at h;simp [h]
 | k+1,w,h=>by
  unfold pR at h
  refine aH (rD.mp h) λ v hv h=>?_
  have:=pQ k v hv
  rcases aM.mp h with rfl | h
  ·exact ae aA (ah this rfl)
  ·cases aq.mp h;exact ae aA (ah this rfl)
theorem nQ:∀k:Nat,(pR k).length=2^k
 | 0=>rfl
 | k+1=>by
  unfold pR
  refine ae o6 ?_
  have:∀l:List (List Bool),(l.map λ w=>[w++[false],w++[true]].length).sum=2*l.length:=λ l=>by
   induction l with
   | nil=>rfl
   | cons a r ih=>refine ah aU (ae vP (ah ih ?_));simp;exact kH _ _
  refine ae (this ..) (ah (nQ k) (ah (zq ..) ?_));exact MF
section
variable{C:Cx}{F:dD}{n:Nat}{m:Str->Option Value}{U U' :AH}{X:Sx}{P:Option (Addr×Ad×SS)}{E E' N:List (Addr×ba)}{a b:Addr}{o o' :ba}{ts us:TL}
theorem lC.mono(h:lC ts E)(hs:∀p∈E,p∈E'):lC ts E' :=λ e he=>hs _ (h e he)
theorem lC.app(h:lC ts E)(h' :lC us E):lC (ts++us) E:=λ e he=>(az.mp he).elim (h e) (h' e)
theorem HS.snoc(H:HS P U (x::(E++N))):HS P U (E++(x::N)):=H.perm ju.symm
theorem jW{i:Nat}(h:(d_ ts)[i]? =some v):∃e,ts[i]? =some e/\v=.ref e.2:=by
 unfold d_ at h
 replace h:=ay▸h
 exact aH (aX.mp h) λ e h1 h2=>(bY e h1 h2.symm)
noncomputable def Rz(us:TL)(ws:List (List Bool))(P:Option (Addr×Ad×SS))(E:List (Addr×ba))(ys:List Value)(U:AH):Prop:=∃us N,HS P U (E++N)/\ys=d_ us/\lC us (E++N)/\us.map (·.1)=ws
theorem Lb{many:Nat}{Q:ig->(Str->Option Value)->AH->Prop}(Xl:sc={kind:=.function,names:=[(dU ".0",.local),(dU "world",.local),(dU "side",.local)],isGenerator:=false,isCoroutine:=false,more:=[]})
  (Sx:Stores F (bg "found")) (We:iE (.ListComp (.BinOp (.Name "world" x1) .Add (.Tuple [.Name "side" x2] 0 x3) x4) [⟨.Name "world" x5,.Name "found" x6,[],0⟩,⟨.Name "side" x7,.Tuple [.Constant (.bool false) 0 x8,.Constant (.bool true) 0 x9] 0 y1,[],0⟩] sc y2) (some (.Name "found" y3)) y4.line F.env=eu true) (Sc:pV F sc)
  (H:HS P U E) (hf:m (bg "found")=some (.ref c)) (hc:(c,lT ts)∈E) (hT:lC ts E) (hl:∀e∈ts,e.1.length<=10) (hz:ts.length<=1000)
  (h:∀D us N U',HS P U' (E++N)->(D,lT us)∈N->lC us (E++N)->us.map (·.1)=(ts.map (·.1)).flatMap (λ w=>[w++[false],w++[true]])->Q .next (fA m (bg "found") (.ref D)) U'):
  W1 C F n (.Assign [.Name "found" y3] (.ListComp (.BinOp (.Name "world" x1) .Add (.Tuple [.Name "side" x2] 0 x3) x4) [⟨.Name "world" x5,.Name "found" x6,[],0⟩,⟨.Name "side" x7,.Tuple [.Constant (.bool false) 0 x8,.Constant (.bool true) 0 x9] 0 y1,[],0⟩] sc y2) y4) m U Q:=by
 subst Xl
 refine xj We Sx Sc (λ V=>rfl) (f_ hf (.inl ⟨c,lT ts,d_ ts,rfl,rfl,.inl (H.at_ hc),λ L2 mL=>(oa (λ i ys U=>Rz ts (((ts.map (·.1)).take i).flatMap λ w=>[w++[false],w++[true]]) P E ys U/\i<=ts.length) ⟨⟨[],[],ah (cw ..) H,rfl,λ e he=>(by cases he),rfl⟩,a0 _⟩ (λ i ys U Uv=>by refine aP Uv λ UM V=>?_;clear Uv;obtain ⟨us,N,H,_⟩:=UM;exact .inl (H.at_ (av _ hc))) ?_ ?_)⟩))
 ·intro i v ys U1 hv Uy;refine aP Uy λ UW hi=>?_;clear Uy;obtain ⟨us,N,H1,rfl,hu,VI⟩:=UW
  refine aH (jW hv) λ e he UB=>?_;subst UB
  have hem:=am he
  refine gg ⟨rfl,rfl,.inl rfl⟩ ⟨nJ rfl,(((⟨⟨rfl,λ V V=>rfl⟩,(pB (jj (λ V=>rfl) (vf (jj (λ V=>rfl) (vf (oN (Jw H1 (aT rfl) λ Tt Uq H2=>?_)))))))⟩):(_/\∀_ _,_)/\_))⟩
  have hperm:∀N2:List (Addr×ba),(((Tt,ba.tup [.bool false,.bool true])::(E++N))++N2).Perm (E++(N++(Tt,ba.tup [.bool false,.bool true])::N2)):=λ N2=>ah List.cons_append (ah (cN ..) ((ju (l₁:=E++N) (l₂:=N2)).symm.trans (by rw [cN]) |>.trans (jU _) |>(λ h=>by simpa [cN] using h)))
  refine ⟨Tt,_,_,rfl,rfl,λ j ys U=>Rz ts (us.map (·.1)++[e.1++[false],e.1++[true]].take j) P ((Tt,.tup [.bool false,.bool true])::(E++N)) ys U,⟨us,[],by rw [cw];exact H2,rfl,hu.mono λ p hp=>by rw [cw];exact .tail _ hp,by simp⟩,λ j ys U UC=>by refine cu UC λ us N H V=>?_;clear UC;exact .inl (H.at_ (.head _)),?_,?_⟩
  ·intro j v2 ys Ux hv2 UF;refine jo UF λ Yn N2 H3 UV Zv Xs=>?_;clear UF;subst UV
   have hj2:j<2:=(al.mp hv2).1
   obtain ⟨bj,rfl,hbj⟩:∃bj:Bool,v2=.bool bj/\[e.1++[false],e.1++[true]].take (j+1)=[e.1++[false],e.1++[true]].take j++[e.1++[bj]]:=by
    match j,hv2 with
    | 0,h=>(try clear hv2);have UP:=sI h;clear h;subst UP;exact bY _ rfl rfl
    | 1,h=>(try clear hv2);have UQ:=sI h;clear h;subst UQ;exact bY _ rfl rfl
   refine gg ⟨rfl,rfl,.inl rfl⟩ ⟨λ z w hz=>?_,?_⟩
   ·unfold fA
    refine eC (λ ez=>?_) λ V=>?_
    ·subst ez
     unfold fA at hz
     rewrite [if_neg (by decide)] at hz
     unfold jz at hz
     rewrite [if_neg (by decide)] at hz
     exact (bH hz).elim
    ·exact hz
   refine pX (I_ rfl (?_:EL _ _ _ _ _ _ _ _))
   have hul:Yn.length<=3000:=by
    have h1:=congrArg lz Xs
    have h2:=congrArg lz VI
    replace h1:=bL▸(ag ..)▸aA▸(ag ..)▸h1
    replace h2:=o6▸(ag ..)▸h2
    have h3:∀l:List (List Bool),(l.map λ w=>[w++[false],w++[true]].length).sum=2*l.length:=λ l=>by
     induction l with
     | nil=>rfl
     | cons a r ih=>refine ah aU (ae vP (ah ih ?_));simp;exact kH _ _
    replace h2:=(ag ..)▸bL▸(h3 ..)▸h2
    exact Q7 hj2 h2 h1 hz
   refine ⟨by unfold d_;exact ah (ag ..) (ac hul (af _ _)),?_⟩
   refine FN (f_ rfl (pB (jj (λ V=>rfl) (f_ rfl (oN (Jw H3 (aT rfl) λ B U4 H4=>?_))))))
   have hew:(e.2,tB e.1)∈(B,ba.tup [.bool bj])::((Tt,ba.tup [.bool false,.bool true])::(E++N)++N2):=.tail _ (av _ (.tail _ (av _ (hT e hem))))
   have fin:∀D N3 U5,HS P U5 ((Tt,ba.tup [.bool false,.bool true])::(E++N)++N3)->(∀p∈N2,p∈N3)->(D,tB (e.1++[bj]))∈N3->Rz ts (us.map (·.1)++[e.1++[false],e.1++[true]].take (j+1)) P ((Tt,.tup [.bool false,.bool true])::(E++N)) (d_ Yn++[.ref D]) U5:=λ D N3 U5 H5 hs hD=>
    ⟨Yn++[(e.1++[bj],D)],N3,H5,by simp [d_],(Zv.mono λ p hp=>(az.mp hp).elim (λ h=>av _ h) λ h=>ak _ (hs p h)).app λ q hq=>ah (aq.mp hq) (ak _ hD),ae aE (ah Xs (ah hbj (ae (cN ..) rfl)))⟩
   refine G3 (H4.tup hew) (H4.tup (.head _)) (by simp) (by have:=hl e hem;refine ah (ag ..) ?_;simp;exact ac this (af _ _)) (λ h0=>?_) λ D hD=>?_
   ·have ZI:e.1=[]:=il.mp h0
    exact fin B ((B,ba.tup [.bool bj])::N2) U4 H4.snoc (λ p hp=> .tail _ hp) (ah ZI (.head _))
   ·refine fin D ((D,tB (e.1++[bj]))::(B,ba.tup [.bool bj])::N2) _ (HS.snoc ?_) (λ p hp=> .tail _ (.tail _ hp)) (.head _)
    have H5:=H4.snoc.fresh (o:=tB (e.1++[bj])) hD
    have ev:(e.1.map cf++[cf bj])=(e.1++[bj]).map cf:=ah aE rfl
    exact ah ev H5
  ·intro ys Ux UT;refine jo UT λ Yn N2 H3 U8 Zv Xs=>?_;clear UT;subst U8
   refine ⟨⟨Yn,N++(Tt,ba.tup [.bool false,.bool true])::N2,H3.perm (hperm N2),rfl,Zv.mono λ p hp=>(hperm N2).mem_iff.mp hp,?_⟩,(al.mp he).1⟩
   rw [Xs,VI,bw,ay,he,List.flatMap_append]
   rfl
 ·intro ys U1 U9 D hD;refine aP U9 λ U7 V=>?_;clear U9;obtain ⟨us,N,H1,rfl,hu,VI⟩:=U7
  have hlen:(d_ ts).length=ts.length:=ag ..
  rw [hlen,mz (by rw [ag];exact aw _)] at VI
  exact h D us ((D,lT us)::N) _ (HS.snoc (H1.fresh hD)) (.head _) (hu.mono λ p hp=>(az.mp hp).elim (λ h=>av _ h) λ h=>ak _ (.tail _ h)) VI
noncomputable abbrev CE:=List (List Int×Addr)
noncomputable def OQ(cs:CE)(E:List (Addr×ba)):Prop:=∀e∈cs,(e.2,ba.tup (e.1.map vi))∈E
noncomputable def jn(cs:CE):List Value:=cs.map λ e=>aZ e.2
noncomputable def DM(cs:CE)(bs:List Bool):Bool:=cs.all λ e=>e.1.any (qh bs)
theorem Bq{i:Nat}(h:(jn cs)[i]? =some v):∃e,cs[i]? =some e/\v=.ref e.2:=by
 unfold jn at h
 replace h:=ay▸h
 exact aH (aX.mp h) λ e h1 h2=>(bY e h1 h2.symm)
end
end
section
section
variable{C:Cx}{F:dD}{n:Nat}{m:Str->Option Value}{U U' :AH}{X:Sx}{P:Option (Addr×Ad×SS)}{E E' N:List (Addr×ba)}{a b:Addr}{o o' :ba}{ts us:TL}
noncomputable def mr(YY:List Nat)(bs:List Bool):List Bool:=YY.map λ v=>bs.getD (v-1) false
noncomputable def m5(so:List Nat)(ch:List Bool):List Int:=(so.zip ch).map λ q=>if q.2=true then-(q.1:Int) else (q.1:Int)
noncomputable abbrev xN(z TI TO i1 i2:Addr)(f a b:Value)(o1 o2:Obj):List (Addr×ba):=[(z,.raw (tC f TI TO)),(TO,.raw (p_ a b)),(TI,.raw (p_ (.ref i1) (.ref i2))),(i2,.raw o2),(i1,.raw o1)]
theorem HS.zipAt{a b:Value}{k:Nat}{xs ys:List Value}(H:HS P U (xN z TI TO i1 i2 .none a b o1 o2++E))(D:qB z TI TO i1 i2 l1 l2)(h1:xn o1 "list_iterator" l1 k)(h2:xn o2 "tuple_iterator" l2 k)(hx:(l1,.list xs)∈E)(hy:(l2,.tup ys)∈E):Fx U z TI TO i1 i2 l1 l2 .none a b k xs ys:=
 ⟨D,H.at_ (.head _),H.at_ (.tail _ (.head _)),H.at_ (.tail _ (.tail _ (.head _))),⟨o2,H.at_ (.tail _ (.tail _ (.tail _ (.head _)))),h2⟩,⟨o1,H.at_ (.tail _ (.tail _ (.tail _ (.tail _ (.head _))))),h1⟩,H.lst (ak _ hx),H.tup (ak _ hy)⟩
theorem AW{m' :Str->Option Value}{Pp E' :Value->aO->Prop}(hz:U.get z=some (.raw (tC f TI TO)))(R:cQ C F' Z s m' U)(h:Pp (.ref z) s):br (bR C.prog C.w) A (qx (.ref z)) Pp E' s:=
 wpAny_pyIter_zip (TI:=TI) (TO:=TO) (f0:=f) (R.sg _ _ hz).2 h
theorem uY(h:ch.length=so.length):(m5 so ch).length=so.length:=by unfold m5;exact ae (ag ..) (ae List.length_zip (ah h (ae (zr ..) rfl)))
end
end
section
section
variable{G:Gx}{A A' :Ad}{S S' :SS}{E E' N:List (Addr×ba)}{n:Nat}{z z' :Zs}{Q:VQ}{fd cl:Addr}{cells:List Int}{k:Nat}
theorem mZ(hn:G.n=n+1)(hw:(w,tB bs)∈E)(hs:(sa,.list (so.map vn))∈E)(hr:∀v∈so,1<=v/\v<=bs.length)(hz:bs.length<=1000)(hsz:so.length<=1000)
  (q:∀D,Q (.ref D) (.s A S ((D,tB (mr so bs))::E))):la G 253 [.ref w,.ref sa] (.s A S E) Q:=by
 refine enter hn ["world","some"] [.v (.ref w),.v (.ref sa)] rfl rfl rfl (λ vs h=>by refine fM (ma h) λ V V Uv=>?_;subst Uv;rfl) rfl ?_
 refine .mk sa _ (so.map vn) Unit (λ V=> .s A S E) (λ i ys V=>ys=(mr (so.take i) bs).map cf) () rfl rfl (ah (ag ..) (ac hsz (af _ _))) rfl d0 (λ i ys V U V k=>dX hs k) (λ i ys V v hv hys V=>?_) λ ys V hys V b=>?_
 ·replace hv:=ay▸hv
  refine aH (aX.mp hv) λ x hx Uy=>?_;subst Uy
  have Wc:=hr x (am hx)
  have hg:(bs.map cf)[((x:Int)-1).toNat]? =some (.bool (bs.getD (x-1) false)):=ah (show ((x:Int)-1).toNat=x-1 from jK _ 1) (ae ay (ah bu (ah (aB (pp Wc.1 Wc.2)) rfl)))
  refine y7 (kI hw) (fH (bU.mpr Wc.1)) (ah (ag ..) (ac hz (af _ _))) hg ⟨(),?_,d0⟩
  refine ah hys (ah bw (ah hx ?_))
  unfold mr
  exact ah aE (ah aE rfl)
 ·replace hys:=bn▸(ag ..)▸hys
  subst hys
  have hcl:((mr so bs).map cf).length=so.length:=ae (ag ..) (ag ..)
  exact m6 (bN (.head _)) (ah hcl (ac hsz (af _ _))) λ D=>lg (l_ ((bC _ _).cons_cons _)) λ V=>q D
end
end
section
section
variable{G:Gx}{A A' :Ad}{S S' :SS}{E E' N:List (Addr×ba)}{n:Nat}{z z' :Zs}{Q:VQ}{ts us:TL}
theorem Oz{bs:List Bool}(h:∀U,z.ok G U->U.rd a=some (.list (bs.map .bool)))(q:Q (.bool (bs.any id)) z):nX G (.builtin "any") [.ref a] z Q:=⟨λ F m U ok=>KQ (h U ok) ⟨z,ok,q⟩⟩
theorem Jt{bs:List Bool}(h:∀U,z.ok G U->U.rd a=some (.list (bs.map .bool)))(q:Q (.bool (bs.all id)) z):nX G (.builtin "all") [.ref a] z Q:=⟨λ F m U ok=>KR (h U ok) ⟨z,ok,q⟩⟩
noncomputable def Os:Scope:={kind:=.function,names:=[(dU ".0",.local),(dU "world",.local),(dU "side",.local)],isGenerator:=false,isCoroutine:=false,more:=[]}
theorem Mq(Xl:sc=Os)(hk:G.nm.lookup (bg "found")=some .local)(hs:rK G sc "world"=true)(hy:(y3.line==y2.line)=true)
  (hf:m.lookup (bg "found")=some (.v (.ref c))) (hc:(c,lT ts)∈E) (hT:lC ts E) (hl:∀e∈ts,e.1.length<=10) (hz:ts.length<=1000)
  (q:∀D us N,(D,lT us)∈N->lC us (N++E)->us.map (·.1)=(ts.map (·.1)).flatMap (λ w=>[w++[false],w++[true]])->QS .next (put m (bg "found") (.ref D)) (.s A S (N++E))):
  l6 G (.Assign [.Name "found" y3] (.ListComp (.BinOp (.Name "world" x1) .Add (.Tuple [.Name "side" x2] 0 x3) x4) [⟨.Name "world" x5,.Name "found" x6,[],0⟩,⟨.Name "side" x7,.Tuple [.Constant (.bool false) 0 x8,.Constant (.bool true) 0 x9] 0 y1,[],0⟩] sc y2) y4) m (.s A S E) QS:=
 ⟨λ F U g (T:St G.me A S U E)=>λ O=>by
  have ho:fx G (bg "found")=true:=by unfold fx;exact ah hk rfl
  have H:HS (some (G.me,A,S)) U E:=T
  refine Lb (P:=some (G.me,A,S)) (many:=0) Xl (eZ g O ho) (congrArg eu (?hb:(F.env.blockKind==.function&&F.env.kindOf _==some .local&&y3.line==y2.line&& !(sc.names.any λ(n,k)=>n==bg "found"&&(k==.local || k==.cell)))=true)) (wf g O hs).ok H (nE hf) hc hT hl hz (λ D us N U' H' hD hu e=>?_) O
  case hb=>exact ah g.blk (ah (g.kind _ _ hk (by decide)) (ah hy (ah Xl rfl)))
  have T' :St G.me A S U' (E++N):=H'
  exact ah (d5 ..) ⟨_,.s A S (N++E),rfl,T'.perm zu,q D us N hD (λ e he=>az.mpr (az.mp (hu e he)).symm) e⟩⟩
structure To(R:Addr)(many:Nat)(E:List (Addr×ba))(i:Nat)(p:TL×Addr×List (Addr×ba)):Prop where
 mem:(p.2.1,lT p.1)∈p.2.2
 all:lC p.1 (p.2.2++E)
 eq:p.1.map (·.1)=pR i
 rng:(R,ba.rng 0 many)∈p.2.2
 le:i<=many
theorem EP(hn:G.n=n+2)(hm:many<=5)(hc:(ca,.list (jn cs))∈E)(hC:OQ cs E)(hcz:cs.length<=100)(hcl:∀e∈cs,e.1.length<=100/\∀l∈e.1,1<=l.natAbs/\l.natAbs<=many)
  (q:∀D ts N,(D,lT ts)∈N->lC ts (N++E)->ts.map (·.1)=(pR many).filter (DM cs)->Q (.ref D) (.s A S (N++E))):la G 248 [vn many,.ref ca] (.s A S E) Q:=by
 refine enter hn ["many","clauses"] [.v (vn many),.v (.ref ca)] rfl rfl rfl (λ vs h=>by refine fM (ma h) λ V V Uv=>?_;subst Uv;rfl) rfl ?_
 refine bt (a0 _) λ T0=>(bt (aT rfl) λ D0=>(m7 (ac hm (by decide)) λ R=>(.mk R (.rng 0 many) (fX 0 many) (TL×Addr×List (Addr×ba)) (λ p=>[("found",.v (.ref p.2.1)),("clauses",.v (.ref ca))]) (λ p=> .s A S (p.2.2++E)) (To R many E) ([([],T0)],D0,[(R,.rng 0 many),(D0,.list [.ref T0]),(T0,.tup [])]) rfl rfl ⟨.tail _ (.head _),λ e he=>?_,rfl,.head _,a0 _⟩ rfl d0 (λ i p U J k=>dX (av _ J.rng) k) ?_ ?_)))
 ·exact ah (aq.mp he) (.tail _ (.tail _ (.head _)))
 ·intro i p v hv J _
  refine aP (jM hv) λ hi Uy=>?_;clear Uy
  have hlen:p.1.length=2^i:=by rw [<-ag (f:=(·.1)),J.eq,nQ]
  have hpw:2^i<=2^5:=fG (by decide) (aG (ai hi hm))
  refine Mq rfl rfl rfl rfl rfl (av _ J.mem) J.all (λ e he=>?_) (ac (aC hlen) (ac hpw (af _ _))) λ D us N hD hu e=>⟨(us,D,N++p.2.2),⟨av _ hD,ah (cN ..) hu,ae e (ah J.eq rfl),ak _ J.rng,hi⟩,rfl,l_ (ah (cN ..) (.refl _))⟩
  have:=pQ i e.1 (dt J.eq (bo he))
  exact aG (ai (ya this hi) (ac hm (af _ _)))
 ·intro p J _
  have hts:=J.eq
  have hD:=J.mem
  have hT:=J.all
  replace hts:=(dp ..)▸hts
  obtain ⟨ts,D,N⟩:=p
  dsimp only at hts hD hT
  have hlen:ts.length=2^many:=by rw [<-ag (f:=(·.1)),hts,nQ]
  have hpw:2^many<=2^5:=fG (by decide) hm
  have hc4:(ca,ba.list (jn cs))∈N++E:=ak _ hc
  have hC4:OQ cs (N++E):=λ e he=>ak _ (hC e he)
  have hbl:∀e∈ts,e.1.length=many:=λ e he=>pQ many e.1 (dt hts (bo he))
  have hrl:(d_ ts).length=ts.length:=ag ..
  have hrc:(jn cs).length=cs.length:=ag ..
  refine (?_:BI _ _ _ _ _ (.s A S (N++E)))
  refine .mk D (lT ts) (d_ ts) Unit (λ V=> .s A S (N++E)) (λ i ys V=>ys=d_ ((ts.take i).filter λ e=>DM cs e.1)) () rfl rfl (by lia) rfl d0 (λ i ys V U V k=>dX (av _ hD) k) (λ i ys V v hv hys V=>?_) λ ys V hys V b=>?_
  ·refine aH (jW hv) λ e he UB=>?_;subst UB
   have hem:=am he
   have Yu:=hbl e hem
   refine .mk ca _ (jn cs) Unit (λ V=> .s A S (N++E)) (λ j ys V=>ys=((cs.take j).map λ c=>c.1.any (qh e.1)).map cf) () rfl rfl (ac (aC hrc) (ac hcz (af _ _))) rfl d0 (λ i ys V U V k=>dX hc4 k) (λ j Ym V v2 hv2 VF V=>?_) λ Ym V VF V b2=>?_
   ·refine aH (Bq hv2) λ c hcj UC=>?_;subst UC
    have hcm:=am hcj
    refine aP (hcl c hcm) λ hcz2 hcr=>(.mk c.2 _ (c.1.map vi) Unit (λ V=> .s A S (N++E)) (λ k ys V=>ys=((c.1.take k).map (qh e.1)).map cf) () rfl rfl (by refine ah (ag ..) ?_;exact ac hcz2 (af _ _)) rfl d0 (λ i ys V U V k=>dX (hC4 c hcm) k) (λ k ys3 V v3 hv3 WH V=>?_) λ ys3 V WH V b3=>?_)
    ·refine aH (ij hv3) λ l hl UF=>?_;subst UF
     have hlr:=hcr l (am hl)
     refine Az rfl (hT e hem) hlr.1 (by refine ah Yu ?_;exact hlr.2) (by refine ah Yu ?_;exact ac hm (af _ _)) ⟨(),?_,d0⟩
     refine ah WH (ah bw (ah hl (ah aE (ah aE ?_))));rfl
    ·replace WH:=bn▸(ag ..)▸WH
     subst WH
     refine Oz (bN (.head _)) ⟨(),?_,nU⟩
     refine ah VF (ah bw (ah hcj (ah aE (ah aE (ah ky ?_)))));rfl
   ·replace VF:=bn▸hrc▸VF
    subst VF
    have htk:ts.take (i+1)=ts.take i++[e]:=by refine ae bw (ah he ?_);rfl
    refine Jt (bN (.head _)) ⟨λ hb=>⟨(),?_,nU⟩,λ hb=>⟨(),?_,nU⟩⟩
    ·have hb:DM cs e.1=true:=by replace hb:=mE▸hb;exact hb
     refine ah hys (ah htk (ah (dZ ..) (ah cO (ah hb ?_))));unfold d_;refine ah aE ?_;rfl
    ·have hb:DM cs e.1=false:=by replace hb:=mE▸hb;exact hb
     refine ae hys (ah htk (ah (dZ ..) (ah cO (ah hb ?_))));exact congrArg d_ (cw _).symm
  ·replace hys:=bn▸hrl▸hys
   subst hys
   refine h_ (q b (ts.filter λ e=>DM cs e.1) ((b,lT (ts.filter λ e=>DM cs e.1))::N) (.head _) (λ e he=> .tail _ (hT e (bx.mp he).1)) ?_)
   refine dt hts (ah nq ?_);rfl
end
end
section
section
variable{G:Gx}{A A' :Ad}{S S' :SS}{E E' N:List (Addr×ba)}{n:Nat}{z z' :Zs}{Q:VQ}
inductive Rp(sa ch:Addr)(A:Ad)(S:SS)(E:List (Addr×ba)):Value->Zs->Prop where
 | mk (z TI TO i1 i2:Addr) (D:qB z TI TO i1 i2 sa ch):Rp sa ch A S E (.ref z) (.s A S (xN z TI TO i1 i2 .none .none .none (ra sa 0) (rH ch 0)++E))
theorem Ou(h1:(sa,.list xs)∈E)(h2:(ch,.tup ys)∈E):nX G (.type "zip") [.ref sa,.ref ch] (.s A S E) (Rp sa ch A S E):=
 ⟨λ F m U (T:St G.me A S U E)=>JO (bN (G:=G) h1 U T) (kI (G:=G) h2 U T) λ z TI TO i1 i2 D n1 n2 nTI nTO nz=>by
  have H:HS (some (G.me,A,S)) U E:=T
  exact ⟨.s A S (xN z TI TO i1 i2 .none .none .none (ra sa 0) (rH ch 0)++E),((((H.fresh (o:=.raw (ra sa 0)) n1).fresh (o:=.raw (rH ch 0)) n2).fresh (o:=.raw (p_ (.ref i1) (.ref i2))) nTI).fresh (o:=.raw (p_ .none .none)) nTO).fresh (o:=.raw (tC .none TI TO)) nz,.mk z TI TO i1 i2 D⟩⟩
theorem Mr(hk:G.nm.lookup (bg "found")=some .local)(hns:qi it=true)
  (Xl:sc.names=[(dU ".0",.local),(dU "v",.local),(dU "side",.local)]) (hs1:rK G sc "v"=true) (hs2:rK G sc "side"=true) (hy:(y3.line==y2.line)=true)
  (h1:(sa,.list (so.map vn))∈E) (h2:(ch,tB cs)∈E) (hl:cs.length=so.length) (hsz:so.length<=100) (hit:(Wk 9 G).e it m (.s A S E) (Rp sa ch A S E))
  (helt:∀(v:Nat) (sd:Bool) z,(Wk 9 (G.sub G.n sc.names)).e UI (put (put (om sc m) "v" (vn v)) "side" (.bool sd)) z λ r z' =>r=vi (if sd=true then-(v:Int) else (v:Int))/\z' =z)
  (q:∀D,QS .next (put m (bg "found") (.ref D)) (.s A S ((D,.list ((m5 so cs).map vi))::E))):
  l6 G (.Assign [.Name "found" y3] (.ListComp UI [⟨.Tuple [.Name "v" x6,.Name "side" x7] ctx x8,it,[],0⟩] sc y2) y4) m (.s A S E) QS:=
 ⟨λ F U g (T:St G.me A S U E)=>λ O=>by
  have ho:fx G (bg "found")=true:=by unfold fx;exact ah hk rfl
  have c1:=wf g O hs1
  have c2:=wf g O hs2
  refine Cg (congrArg eu (?hb:(F.env.blockKind==.function&&F.env.kindOf (bg "found")==some .local&&y3.line==y2.line&& !(sc.names.any λ(n,k)=>n==bg "found"&&(k==.local || k==.cell)))=true)) (eZ g O ho) c1.ok (jY hns _) ?_ O
  case hb=>exact ah g.blk (ah (g.kind _ _ hk (by decide)) (ah hy (ah Xl rfl)))
  refine WE.bd (α:=λ Uu=>True) ((jH 9).e (z:=.s A S E) hit g T) λ v z U1 T₁ hv=>?_
  cases hv with
  | mk z TI TO i1 i2 D=>
  have H2:HS (some (G.me,A,S)) U1 (xN z TI TO i1 i2 .none .none .none (ra sa 0) (rH ch 0)++E):=T₁
  refine t7 z (λ k ys U=>∃i a b o1 o2,HS (some (G.me,A,S)) U (xN z TI TO i1 i2 .none a b o1 o2++E)/\xn o1 "list_iterator" sa i/\xn o2 "tuple_iterator" ch i/\i+k=so.length/\ys=((m5 so cs).take i).map vi) so.length rfl ⟨0,_,_,_,_,H2,⟨rfl,rfl⟩,⟨rfl,rfl⟩,O2 _,rfl⟩ (λ L2 mL=>⟨?_,?_⟩)
  ·intro k' y Uq Uv F' A s Z m' Pp Ee R hP;refine Ar Uv λ i a b o1 UT=>?_;clear Uv;obtain ⟨o2,H3,_⟩:=UT
   exact AW (H3.at_ (.head _)) R hP
  ·intro k' ys Uq Uy;obtain ⟨i,a,b,o1,o2,H3,l1,l2,hi,rfl⟩:=Uy
   by_cases hlt:i<so.length
   ·have hx:(so.map vn)[i]? =some (vn so[i]):=ae ay (ah (aB hlt) rfl)
    have hltc:i<cs.length:=hl▸hlt
    have hy:(cs.map cf)[i]? =some (.bool cs[i]):=ae ay (ah (aB hltc) rfl)
    have hb:(m5 so cs)[i]? =some (if cs[i]=true then-(so[i]:Int) else (so[i]:Int)):=by
     unfold m5
     exact ae ay (ah (lb (z:=(so[i],cs[i])) |>.mpr ⟨aB hlt,aB hltc⟩) rfl)
    generalize so[i]=v at hx hb
    generalize cs[i]=sd at hy hb
    refine w9 (H3.zipAt D l1 l2 h1 h2) hx hy λ T x y Y_ Y9 ex ey hT l1' l2' =>?_
    have H8:=((((H3.fresh (o:=.tup [vn v,.bool sd]) hT).turn (a:=z) (o' :=.raw (tC (je T) TI TO)) (.there .here)).turn (a:=TO) (o' :=.raw (p_ x y)) (.there (.there .here))).turn (a:=i1) (o' :=.raw Y_) (.there (.there (.there (.there (.there .here)))))).turn (a:=i2) (o' :=.raw Y9) (.there (.there (.there (.there .here))))
    generalize ((((Uq.put T (ba.tup [vn v,cf sd])).put z (ba.raw (tC (je T) TI TO))).put TO (ba.raw (p_ x y))).put i1 (ba.raw Y_)).put i2 (ba.raw Y9)=Ux at H8⊢
    refine bY (k' -1) (QP hi hlt) (w_ (H8.at_ (.tail _ (.head _))) ?_)
    have H9:=H8.turn (a:=z) (o' :=.raw (tC .none TI TO)) (.there .here)
    generalize Ux.put z (ba.raw (tC gh TI TO))=U4 at H9⊢
    refine Iw rfl (H9.tup (.head _)) rfl (gg (c1.st _ _) (gg (c2.st _ _) ⟨λ q w hq=>?_,?_⟩))
    ·unfold jz at hq
     split at hq
     ·rename_i ZC
      replace ZC:=Xl▸ZC
      have:=mem_of_lookup ZC
      simp at this
     ·exact (bH hq).elim
    refine pX (I_ rfl (?_:EL _ _ _ _ _ _ _ _))
    have hbl:=uY hl
    refine ⟨ah (ag ..) (ah bL (ac (xd hbl (ic _ _)) (ac hsz (af _ _)))),?_⟩
    refine dt (pL ..) (ah (d5 ..) (ah (d5 ..) (WE.bd (G:=G.sub G.n sc.names) (α:=λ Uu=>True) ((jH 9).e (G:=G.sub G.n sc.names) (helt v sd (.s A S ((T,ba.tup [vn v,cf sd])::(xN z TI TO i1 i2 .none x y Y_ Y9 ++E)))) (c1.gf L2 mL) H9) λ r z' U5 T5 hr=>(aP hr λ UB UC=>?_))));clear hr;subst UB;subst UC
    exact ⟨i+1,x,y,Y_,Y9,(show HS (some (G.me,A,S)) U5 _ from T5).subl (bC _ _),l1',l2',QO hi hlt,ah bw (ah hb (ah aE rfl))⟩
   ·have hie:i=so.length:=a_ (xd hi (ax _ _)) (b0 hlt)
    have hp:(xN z TI TO i1 i2 .none a b o1 o2++E).Perm ((z,.raw (tC .none TI TO))::(i1,.raw o1)::((TO,.raw (p_ a b))::(TI,.raw (p_ (.ref i1) (.ref i2)))::(i2,.raw o2)::E)):=TR _ (ju (l₁:=[(TO,ba.raw (p_ a b)),(TI,ba.raw (p_ (.ref i1) (.ref i2))),(i2,ba.raw o2)]) (l₂:=E) (a:=(i1,ba.raw o1)))
    have H4:=((H3.perm hp).dropA).dropA
    refine za (U' :=AH.drop (AH.drop Uq z) i1) (H3.zipAt D l1 l2 h1 h2) (by rewrite [bD];rfl;exact ah (ag ..) (b0 hlt)) (λ c o e=>?_) λ fb hfb=>?_
    ·replace e:=(AH.get_drop ..)▸e
     split at e
     ·exact (bH e).elim
     rename_i e1
     replace e:=(AH.get_drop ..)▸e
     split at e
     ·exact (bH e).elim
     rename_i e2
     exact dn e e2 e1
    ·have hbl:=uY hl
     refine ah (mz (ac (aC hbl) (b0 hlt))) ?_
     have H5:=(H4.subl ((bC _ _).trans ((bC _ _).trans (bC _ _)))).fresh (o:=.list ((m5 so cs).map vi)) hfb
     exact ah (d5 ..) ⟨_,.s A S ((fb,.list ((m5 so cs).map vi))::E),rfl,H5,q fb⟩⟩
theorem B4{cells:List Int}{so:List Nat}{cs:List Bool}(hn:G.n=n+2)(hz:cells.length<=1000)(hk:k+2<=100000)(hc:(ch,tB cs)∈E)(hs:(sa,.list (so.map vn))∈E)(hl:cs.length=so.length)(h0:so≠[])(hsz:so.length<=100)
  (q:∀(ls:List Int) D,(∀l,l∈ls↔l∈m5 so cs)->ls.length<=2*so.length->Q (.ref D) (.s A S ((D,.list (ls.map vi))::(fd,dQ cl (k+2))::(cl,.list (cells.map vi))::E))):la G 258 [.ref fd,.ref ch,.ref sa] (.s A S ((fd,dQ cl k)::(cl,.list (cells.map vi))::E)) Q:=by
 refine enter hn ["feed","choice","some"] [.v (.ref fd),.v (.ref ch),.v (.ref sa)] rfl rfl rfl (λ vs h=>by refine kJ (BF h) λ Uu Uu Uu UF=>?_;subst UF;rfl) rfl ?_
 have hs1:(sa,ba.list (so.map vn))∈(fd,dQ cl k)::(cl,ba.list (cells.map vi))::E:=.tail _ (.tail _ hs)
 have hc1:(ch,tB cs)∈(fd,dQ cl k)::(cl,ba.list (cells.map vi))::E:=.tail _ (.tail _ hc)
 refine Mr rfl rfl rfl rfl rfl rfl hs1 hc1 hl hsz (Ou hs1 hc1) (λ v sd z=>?_) λ fb=>?_
 ·cases sd with
  | true=>exact cT ⟨rfl,rfl⟩
  | false=>exact cF ⟨rfl,rfl⟩
 have hbl:=uY hl
 have hB0:0<so.length:=im.mpr h0
 generalize m5 so cs=B at q hbl
 have hBl:(B.map vi).length=B.length:=ag ..
 refine jA (bN (.head _)) hBl (ac (aC hbl) (ac hsz (af _ _))) (kY rfl (.s (.there .here) (.tail _ (.tail _ (.head _))) hz (ac (ax _ _) hk)) (bQ.mpr (hbl▸hB0)) λ r0 g0 Uu=>(aS (dH g0) λ r UP=>?_));subst UP
 refine u4 (λ h=>(bH h).elim) (bN (.head _)) (ME hbl hBl hsz) λ A1=>(u4 (λ h=>(bH h).elim) (bN (.tail _ (.head _))) (ME hbl hBl hsz) λ A2=>(ah (pick_from ..) (ah (jX ..) (u8 (bN (.tail _ (.head _))) (bN (.head _)) (by refine ah l8 (ah bL ?_);exact QN hbl hBl hsz) λ fc=>?_))))
 have eF:(B.map vi).drop r++(B.map vi).take r=(B.drop r++B.take r).map vi:=ah aE (ah LH (ah iD rfl))
 refine ah eF ?_
 have hFl:(B.drop r++B.take r).length=B.length:=by refine ae aA (ah l8 (ah bL ?_));exact QM
 have hFm:∀l,l∈B.drop r++B.take r↔l∈B:=λ l=>by rw [az,or_comm,<-az,fj]
 generalize B.drop r++B.take r=V at hFl hFm
 have hVl:(V.map vi).length=V.length:=ag ..
 refine kY rfl (.s (.there (.there (.there (.there .here)))) (.tail _ (.tail _ (.tail _ (.tail _ (.tail _ (.head _)))))) hz (aG (ai (aK _) hk))) (by decide) λ r1 g1 Uu=>(aS (dH g1) λ j UQ=>?_);subst UQ
 refine u4 (λ h=>(bH h).elim) (bN (.head _)) (QL hbl hFl hVl hsz) λ A3=>(ah (jX ..) (u8 (bN (.tail _ (.head _))) (bN (.head _)) (by refine ah bL ?_;exact QK hbl hFl hVl hsz) λ fe=>?_))
 refine ah (show V.map vi++(V.map vi).take j=(V++V.take j).map vi from ah aE (ah iD rfl)) (lg (l_ (.cons_cons _ (.cons _ (.cons _ (.cons _ (.cons _ (.cons _ (.refl _)))))))) λ Uu=>q _ fe (λ l=>?_) (by refine ah aA (ah bL ?_);exact QJ hbl hFl))
 refine gk az ?_;rewrite [<-hFm]
 exact ⟨λ h=>h.elim id AS,.inl⟩
end
end
section
section
variable{n:Nat}{U U' :AH}{X:Sx}{A:Ad}{S:SS}{me:Addr}{E E' N:List (Addr×ba)}{a b:Addr}{o o' :ba}{ts us:TL}
end
noncomputable def oW(k:Nat)(w:Nat->Bool):List Bool:=(bk k).map λ i=>w (i+1)
theorem GN(k:Nat)(w:Nat->Bool):(oW k w).length=k:=by unfold oW;exact ae (ag ..) (ae eT rfl)
theorem zE(w:Nat->Bool)(h1:1<=v)(h2:v<=k):(oW k w).getD (v-1) false=w v:=by
 unfold oW
 exact ae bu (ah ay (ah (o7 (pp h1 h2)) (((ah (gw h1) rfl):w (v-1+1)=w v))))
theorem mF(w:Nat->Bool)(h1:1<=l.natAbs)(h2:l.natAbs<=k):qh (oW k w) l=iI w l:=by
 unfold qh iI
 exact ah (zE w h1 h2) rfl
theorem xT:∀(k:Nat) (w:Nat->Bool),oW k w∈pR k
 | 0,w=>by simp [oW,pR]
 | k+1,w=>by
  have ih:=xT k w
  unfold pR
  refine rD.mpr ⟨_,ih,?_⟩
  have:oW (k+1) w=oW k w++[w (k+1)]:=by
   unfold oW
   exact ah iG (ae aE rfl)
  refine ah this ?_
  cases w (k+1)<;>simp
noncomputable def I2(bs:List Bool):Nat->Bool:=λ v=>bs.getD (v-1) false
theorem uh(h:bs.length=k):oW k (I2 bs)=bs:=by
 unfold oW
 refine jv (ae (ag ..) (ae eT (ah h rfl))) λ i h1 h2=>(ae (GI ..) (ah (CQ ..) ?_))
 unfold I2
 exact ah (qE ..) (ae bu (ah (aB h2) rfl))
theorem AD:∀{so:List Nat} {cs:List Bool} (w:Nat->Bool),cs.length=so.length->(∀v∈so,1<=v)->((∃x∈m5 so cs,iI w x=true)↔so.map w≠cs)
 | [],[],w,_,_=>by simp [m5]
 | [],_::_,w,h,_=>by cases h
 | _::_,[],w,h,_=>by cases h
 | v::so,b::cs,w,h,h1=>by
  have ih:=AD (so:=so) (cs:=cs) w (by simpa using h) λ u hu=>h1 u (.tail _ hu)
  have hv:=h1 v (.head _)
  have e:m5 (v::so) (b::cs)=(if b=true then-(v:Int) else (v:Int))::m5 so cs:=rfl
  have hs:iI w (if b=true then-(v:Int) else (v:Int))=true↔w v≠b:=by
   unfold iI
   have Ho:decide (-(v:Int)>0)=false:=decide_eq_false (jE.mpr (fR (bG v)))
   have hd2:decide ((v:Int)>0)=true:=decide_eq_true (bQ.mpr (ai (aK _) hv))
   clear e h;cases b with
   | true=>refine ah (if_pos rfl) (ah Ho (ah (b9 ..) (ah (Gm ..) ?_)));cases w v<;>simp
   | false=>refine ah (if_neg (by simp)) (ah hd2 (ah (Gm ..) ?_));cases w v<;>simp
  refine ah e (ah aU ?_)
  constructor
  ·intro Uv heq;refine aH Uv λ x hx hxs=>?_;clear Uv
   replace heq:=(jr ..)▸heq
   rcases aM.mp hx with rfl | hx
   ·exact hs.mp hxs heq.1
   ·exact ih.mp ⟨x,hx,hxs⟩ heq.2
  ·intro hne
   by_cases hw:w v=b
   ·exact aH (ih.mpr λ q=>hne (ah hw (ah q rfl))) λ x hx hxs=>(bY x (.tail _ hx) hxs)
   ·exact bY _ (.head _) (hs.mpr hw)
theorem HE(w:Nat->Bool)(h:∀v∈so,1<=v/\v<=k):mr so (oW k w)=so.map w:=by
 unfold mr
 exact dq λ v hv=>zE w (h v hv).1 (h v hv).2
noncomputable def Wt(cs:CE)(k:Nat)(so:List Nat)(td:TL)(w:Nat->Bool):Prop:=DM cs (oW k w)=true/\mr so (oW k w)∉td.map (·.1)
theorem Wt.add{ls:List Int}(hso:∀v∈so,1<=v/\v<=k)(hl:ch.length=so.length)(hm:∀l,l∈ls↔l∈m5 so ch):(λ w=>Wt cs k so td w/\∃x∈ls,iI w x=true)=Wt cs k so (td++[(ch,D)]):=by
 funext w
 apply propext
 have hb:=AD (so:=so) (cs:=ch) w hl λ v hv=>(hso v hv).1
 have he:(∃x∈ls,iI w x=true)↔mr so (oW k w)≠ch:=by
  refine ah (HE w hso) ?_;rewrite [<-hb]
  exact ⟨λ Uy=>by refine aH Uy λ x h q=>?_;clear Uy;exact bY x ((hm x).mp h) q,λ UB=>by refine aH UB λ x h q=>?_;clear UB;exact bY x ((hm x).mpr h) q⟩
 refine gk he ?_
 unfold Wt
 refine ah aE (gk az ?_)
 constructor
 ·intro UC;refine aP UC λ UQ h3=>?_;clear UC;obtain ⟨h1,h2⟩:=UQ
  exact ⟨h1,λ h=>h.elim h2 λ h=>h3 (aq.mp h)⟩
 ·intro UF;refine aP UF λ h1 h2=>?_;clear UF
  exact ⟨⟨h1,λ h=>h2 (.inl h)⟩,λ h=>h2 (.inr (ah h (aq.mpr rfl)))⟩
theorem HW(hso:∀v∈so,1<=v/\v<=k):∀l∈m5 so ch,1<=l.natAbs/\l.natAbs<=k:=λ l hl=>by
 unfold m5 at hl
 refine aH (aF.mp hl) λ q hq UP=>?_;subst UP
 have:=hso q.1 (gB hq).1
 refine eC (λ V=>?_) λ V=>?_
 ·exact ah (b9 ..) this
 ·exact this
end
section
section
variable{C:Cx}{F:dD}{n k:Nat}{m:Str->Option Value}{U U' :AH}{X:Sx}{P:Option (Addr×Ad×SS)}{E E' N:List (Addr×ba)}{a b:Addr}{o o' :ba}{ts us:TL}
theorem HS.ne(H:HS P U ((a,o)::E))(h:(b,q)∈E):b≠a:=λ e=>(aY.mp H.nd).1 (aF.mpr ⟨_,h,e⟩)
theorem DF:∀(x y:List Bool),((bk (min x.length y.length)).all (λ j=>x.getD j false==y.getD j false)&&x.length==y.length)=decide (x=y):=λ x y=>by
 by_cases h:x=y
 ·subst h;simp
 ·refine ah (decide_eq_false h) (gk Bool.and_eq_false_iff ?_)
  by_cases hl:x.length=y.length
  ·left
   refine q6.mpr λ hall=>h ?_
   replace hall:=(zr ..)▸hl▸hall;rewrite [bZ] at hall
   refine jv hl λ i h1 h2=>?_
   have:=df (hall i (bK.mpr h2))
   replace this:=aB h2▸aB h1▸bu▸bu▸this
   exact this
  ·right;simpa using hl
theorem ti.tB(ha:U.rd a=some (tB x))(hb:U.rd b=some (tB y))(hne:a≠b):ti C U (k+3) (.ref a) (.ref b) (decide (x=y)):=by
 have:=ti.tups (C:=C) (k:=k) (e:=λ j=>x.getD j false==y.getD j false) ha hb hne λ j u v hu hv=>by
  rw [ay] at hu hv
  refine aH (aX.mp hu) λ p hp Uv=>?_;subst Uv
  refine aH (aX.mp hv) λ q hq Uy=>?_;subst Uy
  exact ah bu (ah bu (ah hp (ah hq (ti.bools p q))))
 replace this:=(DF ..)▸(ag ..)▸(ag ..)▸this
 exact this
noncomputable def Km(td:TL)(ch:List Bool)(v:Value):Bool:=td.any λ t=>(match v with | .ref a=>a==t.2 | _=>false)&&decide (t.1=ch)
theorem uH(H:HS P U E)(hT:lC ts E)(ht:t∈ts):Km ts ch (.ref t.2)=decide (t.1=ch):=by
 unfold Km
 by_cases h:t.1=ch
 ·exact ah (decide_eq_true h) (dK.mpr ⟨t,ht,by simp [h]⟩)
 ·refine ah (decide_eq_false h) (q6.mpr λ hany=>(aH (dK.mp hany) λ u hu q=>?_))
  simp only [dL,beq_iff_eq,decide_eq_true_eq] at q
  have e:=H.same (hT t ht) (ah q.1 (hT u hu))
  have e2:t.1.map cf=u.1.map cf:=by injection e
  have e3:t.1=u.1:=(List.map_inj_right (λ x y h=>by injection h)).mp e2
  exact h (e3.trans q.2)
theorem AI(H:HS P U E)(hT:lC ts E):(d_ ts).any (Km ts ch)=decide (ch∈ts.map (·.1)):=by
 unfold d_
 refine ae ky ?_
 by_cases h:ch∈ts.map (·.1)
 ·refine ah (decide_eq_true h) (aH (aF.mp h) λ t ht UB=>?_);subst UB
  exact dK.mpr ⟨t,ht,by refine ((ae (uH H hT ht) ?_):Km ts t.1 (.ref t.2)=true);simp⟩
 ·refine ah (decide_eq_false h) (q6.mpr λ hany=>(aH (dK.mp hany) λ t ht q=>?_))
  have q' :Km ts ch (.ref t.2)=true:=q
  replace q' :=uH H hT ht▸q'
  exact h (of_decide_eq_true q' ▸bo ht)
theorem qU{Q:Value->AH->Prop}(H:HS P U E)(hl:(l,lT ts)∈E)(hT:lC ts E)(hD:(D,ba.tup (ch.map cf))∈E)(hne:∀t∈ts,t.2≠D)(h:Q (.bool (!decide (ch∈ts.map (·.1)))) U):ji C F (n+1) (bm .NotIn) (.ref D) (.ref l) m U (qe Q):=by
 refine sh (xs:=d_ ts) (e:=Km ts ch) (H.lst hl) (λ y hy=>?_) (ah (AI H hT) h)
 refine aH (aF.mp hy) λ t ht UC=>?_;subst UC
 exact ah (uH H hT ht) (ti.tB (H.tup (hT t ht)) (H.tup hD) (hne t ht))
theorem EM{Q:Value->AH->Prop}(H:HS P U E)(hl:(l,lT ts)∈E)(hT:lC ts E)(hD:(D,ba.tup (ch.map cf))∈E)(hne:∀t∈ts,t.2≠D)(h:Q (.bool (decide (ch∈ts.map (·.1)))) U):ji C F (n+1) (bm .In) (.ref D) (.ref l) m U (qe Q):=by
 refine qV (xs:=d_ ts) (e:=Km ts ch) (H.lst hl) (λ y hy=>?_) (ah (AI H hT) h)
 refine aH (aF.mp hy) λ t ht UF=>?_;subst UF
 exact ah (uH H hT ht) (ti.tB (H.tup (hT t ht)) (H.tup hD) (hne t ht))
theorem yT{Q:Value->AH->Prop}(h1:U.rd l1=some (.list xs))(h2:U.rd l2=some (.list []))(h:Q (.bool (!xs.isEmpty)) U):ji C F (n+1) (bm .NotEq) (.ref l1) (.ref l2) m U (qe Q):=λ a' b' e1 e2 O Z s W R K=>by
 refine ah (eI e1) (ah (eI e2) (cu (R.at h1) λ vs c hv hx=>?_))
 (try clear h1);refine cu (R.at h2) λ ws c' hw hy=>?_
 have hu:=O.units
 have hws:ws=[]:=il.mp hy
 clear hy;subst hws
 have hlen:vs.length=xs.length:=eK hx
 by_cases hz:xs=[]
 ·have hvs:vs=[]:=dR (ae hlen (ah hz rfl))
  clear hlen hx;subst hvs
  refine ec (oq (e:=λ V=>true) ⟨_,hv,rfl,_,rfl⟩ ⟨_,hw,rfl,_,rfl⟩ rfl (au (ax _ _) hu) λ j h1 h2=>absurd h1 (ef _)) (K _ _ _ R ?_)
  replace h:=hz▸h;exact h
 ·refine ec (Gz ⟨_,hv,rfl,_,rfl⟩ ⟨_,hw,rfl,_,rfl⟩ (by refine ah bc (ah bc (ah hlen ?_));clear h hlen hx;cases xs with | nil=>exact absurd rfl hz | cons x r=>rfl) (au (ax _ _) hu)) (K _ _ _ R ?_)
  have:xs.isEmpty=false:=by clear h hlen hx;cases xs with | nil=>exact absurd rfl hz | cons x r=>rfl
  replace h:=this▸h;exact h
theorem EJ{Q:Value->AH->Prop}(H:HS P U E)(h1:(l1,lT ts)∈E)(h2:(l2,lT us)∈E)(t1:lC ts E)(t2:lC us E)(hs:ts.map (·.1)=us.map (·.1))(h:Q (.bool false) U):ji C F (n+1) (bm .NotEq) (.ref l1) (.ref l2) m U (qe Q):=λ a' b' e1 e2 O Z s W R K=>by
 refine ah (eI e1) (ah (eI e2) ?_)
 have hl1:=R.lst (items:=ts) (H.lst h1)
 have hl2:=R.lst (items:=us) (H.lst h2)
 have hu:=O.units
 have hi:=qS F.A
 have hlen:ts.length=us.length:=by have:=congrArg lz hs;rwa [ag,ag] at this
 refine ec (oq (e:=λ V=>true) hl1 hl2 (by simp [hlen]) (au (ax _ _) hu) λ j q1 q2=>?_) (K _ _ _ R ?_)
 ·have q1' :j<ts.length:=by simpa using q1
  have q2' :j<us.length:=by simpa using q2
  have e1:(ts.map λ e=>aZ e.2).toArray[j]=.ref ts[j].2:=by simp
  have e2:(us.map λ e=>aZ e.2).toArray[j]=.ref us[j].2:=by simp
  refine ah e1 (ah e2 ?_)
  have heq:ts[j].1=us[j].1:=by
   have:=congrArg (λ l=>l[j]?) hs
   simp only [ay,aB q1',aB q2'] at this
   exact bq this
  by_cases hab:ts[j].2=us[j].2
  ·exact ah hab (ti.same (C:=C) (U:=U) (k:=6) us[j].2 F Z s m R _ _ rfl rfl _ (by lia))
  ·have:=ti.tB (C:=C) (k:=3) (H.tup (t1 _ (hO q1'))) (H.tup (t2 _ (hO q2'))) hab
   replace this:=decide_eq_true heq▸this
   exact this F Z s m R _ _ rfl rfl _ (by lia)
 ·have:(!((bk (ts.map λ e=>aZ e.2).toArray.size).all λ V=>true))=false:=by simp
  exact ah this h
theorem wT{Q:Value->AH->Prop}(h1:U.rd l1=some (.tup []))(h2:U.rd l2=some (.tup []))(h:Q (.bool false) U):ji C F (n+1) (bm .NotEq) (.ref l1) (.ref l2) m U (qe Q):=λ a' b' e1 e2 O Z s W R K=>by
 refine ah (eI e1) (ah (eI e2) (cu (R.at h1) λ vs c hv hx=>(cu (R.at h2) λ ws c' hw hy=>?_)))
 have hu:=O.units
 have hvs:vs=[]:=il.mp hx
 have hws:ws=[]:=il.mp hy
 clear hx hy;subst hvs;(try clear hy);subst hws
 exact ec (Gw (e:=λ V=>true) ⟨_,hv,rfl,_,rfl⟩ ⟨_,hw,rfl,_,rfl⟩ (au (ax _ _) hu) λ j h1 h2=>absurd h1 (ef _)) (K _ _ _ R h)
end
end
section
section
variable{C:Cx}{F:dD}{n:Nat}{m:Str->Option Value}{U U' :AH}{X:Sx}{P:Option (Addr×Ad×SS)}{E E' N:List (Addr×ba)}{a b:Addr}{o o' :ba}{ts us:TL}
noncomputable abbrev vJ(fd cl ta:Addr)(cells:List Int)(k:Nat)(td:TL)(E:List (Addr×ba)):List (Addr×ba):=(fd,dQ cl k)::(cl,.list (cells.map vi))::(ta,lT td)::E
structure Gq(sa wa:Addr)(so:List Nat)(ws:TL)(cs:CE)(k:Nat)(E:List (Addr×ba)):Prop where
 hs:(sa,ba.list (so.map vn))∈E
 hw:(wa,lT ws)∈E
 hT:lC ws E
 ww:ws.map (·.1)=(pR k).filter (DM cs)
 sr:∀v∈so,1<=v/\v<=k
 s0:so≠[]
 s4:so.length<=4
 k5:k<=5
theorem Gq.len(K:Gq sa wa so ws cs k E):∀e∈ws,e.1.length=k:=λ e he=>pQ k e.1 ((bx.mp (dt K.ww (bo he))).1)
theorem Gq.card(K:Gq sa wa so ws cs k E):ws.length<=32:=by
 have h1:=congrArg lz K.ww
 replace h1:=(ag ..)▸h1
 have h2:=gF (DM cs) (pR k)
 replace h2:=(nQ ..)▸h2
 have:2^k<=2^5:=fG (dN _) K.k5
 exact ac (aC h1) (ac h2 this)
theorem Gq.mono(K:Gq sa wa so ws cs k E)(h:∀p∈E,p∈E'):Gq sa wa so ws cs k E' :={K with hs:=h _ K.hs,hw:=h _ K.hw,hT:=K.hT.mono h}
theorem EB{ws ab td nw es us:TL}{as:List Int}{E:List (Addr×ba)}{sa wa:Addr}(K:Gq sa wa so ws cs k E)(hal:∀e∈ab,e∈ws/\as.all (λ l=>qh e.1 l)=true)(Vc:∀l∈as,1<=l.natAbs/\l.natAbs<=k)
  (VI:us.map (·.1)=(ab.map λ e=>mr so e.1).filter λ b=> !decide (b∈td.map (·.1))) (hmem:∀b,b∈es.map (·.1)↔b∈us.map (·.1)) (ZU:(es.map (·.1)).Nodup) (hi:i<es.length) (hn:nw.length=i):∃w,Wt cs k so (td++nw) w/\∀a∈as,iI w a=true:=by
 obtain ⟨b,hb,hbn⟩:∃b∈es.map (·.1),b∉nw.map (·.1):=by
  refine cS λ hno=>?_
  have:=jl (ls:=nw.map (·.1)) ZU λ b hb=>cS λ q=>hno ⟨b,hb,q⟩
  replace this:=(ag ..)▸(ag ..)▸this
  exact cj (ai hi this) hn
 rewrite [hmem] at hb;replace hb:=VI▸hb
 refine aP (bx.mp hb) λ h1 h2=>?_
 (try clear hb);refine aH (aF.mp h1) λ e he Uv=>?_;subst Uv
 refine aP (hal e he) λ hw ha=>?_
 have hek:oW k (I2 e.1)=e.1:=uh (K.len e hw)
 have hok:DM cs e.1=true:=(bx.mp (dt K.ww (bo hw))).2
 refine bY (I2 e.1) ⟨ah hek hok,?_⟩ (λ a Xd=>?_)
 ·refine ah hek (ah aE (gk az ?_))
  rintro (h | h)
  ·simp [h] at h2
  ·exact hbn h
 ·exact sV (mF _ (Vc a Xd).1 (Vc a Xd).2) (ah hek (bZ.mp ha a Xd))
end
end
section
section
variable{G:Gx}{A A' :Ad}{S S' :SS}{E E' N:List (Addr×ba)}{n:Nat}{z z' :Zs}{Q:VQ}{ts us:TL}{a D l:Addr}{o:ba}{p:Addr×ba}
theorem EV{W:(Nat->Bool)->Prop}(hn:G.n=n+4)(ha:(a,.list (as.map vi))∈E)(R:Rs k W bud S)(hN:k<=5)(hb:bud<=30000)(has:as.length<=1000)(Vc:∀l∈as,1<=l.natAbs/\l.natAbs<=k)
  (q:∀A' S' b,OT k W as bud S' b->Q (.bool b) (.s A' S' E)):la G 203 [.ref G.me,.ref a] (.s A S E) Q:=
 HI hn (Dq hN hb has Vc) ha R.trl.tr R.lock (λ l hl=>by have:=Vc l hl;exact MD this hN) ⟨R.ask as Vc,rfl⟩ q
theorem EW{W:(Nat->Bool)->Prop}{ls:List Int}(hn:G.n=n+2)(ha:(a,o)∈E)(hi:fy o=some (ls.map vi))(R:Rs k W bud S)(hN:k<=60)(hb:bud<=40000)(hz:ls.length<60)(Vc:∀l∈ls,1<=l.natAbs/\l.natAbs<=k)
  (q:∀A' S',Rs k (λ w=>W w/\∃x∈ls,iI w x=true) (bud+1) S' ->(S.refuted=true->S'.refuted=true)->Q (.bool (!S'.refuted)) (.s A' S' E)):la G 123 [.ref G.me,.ref a] (.s A S E) Q:=by
 have K:=R.add hN hb hz Vc
 exact pM hn ha hi K.tr K.lock K.len K.rng K.b1 K.b2 K.b3 K.b4 (λ hp A' =>q A' _ (K.no hp).1 (K.no hp).2) λ hp c A' hc=>q A' _ (K.yes hp c hc).1 (K.yes hp c hc).2
theorem E7(hn:G.n=n+1)(hl:(l,lT ts)∈E)(hT:lC ts E)(q:Q (.bool (!decide (ch∈ts.map (·.1)))) (.s A S ((D,tB ch)::E))):m_ G (bm .NotIn) (.ref D) (.ref l) (.s A S ((D,tB ch)::E)) Q:=
 ⟨λ F m U (T:St G.me A S U ((D,tB ch)::E))=>by
  have H:HS (some (G.me,A,S)) U ((D,tB ch)::E):=T
  exact ah hn (qU H (.tail _ hl) (hT.mono λ V h=> .tail _ h) (.head _) (λ t ht=>H.ne (hT t ht)) (jt T q))⟩
theorem H6(hn:G.n=n+1)(hl:(l,lT ts)∈E)(hT:lC ts E)(q:Q (.bool (!decide (ch∈ts.map (·.1)))) (.s A S (p::(D,tB ch)::E))):m_ G (bm .NotIn) (.ref D) (.ref l) (.s A S (p::(D,tB ch)::E)) Q:=
 ⟨λ F m U (T:St G.me A S U (p::(D,tB ch)::E))=>by
  have H:HS (some (G.me,A,S)) U (p::(D,tB ch)::E):=T
  exact ah hn (qU H (.tail _ (.tail _ hl)) (hT.mono λ V h=> .tail _ (.tail _ h)) (.tail _ (.head _)) (λ t ht=>(H.subl (bC _ _)).ne (hT t ht)) (jt T q))⟩
theorem Oy(hn:G.n=n+1)(hl:(l,lT ts)∈E)(hT:lC ts E)(q:Q (.bool (decide (ch∈ts.map (·.1)))) (.s A S ((D,tB ch)::E))):m_ G (bm .In) (.ref D) (.ref l) (.s A S ((D,tB ch)::E)) Q:=
 ⟨λ F m U (T:St G.me A S U ((D,tB ch)::E))=>by
  have H:HS (some (G.me,A,S)) U ((D,tB ch)::E):=T
  exact ah hn (EM H (.tail _ hl) (hT.mono λ V h=> .tail _ h) (.head _) (λ t ht=>H.ne (hT t ht)) (jt T q))⟩
theorem H_(hn:G.n=n+1)(h1:∀U,z.ok G U->U.rd l1=some (.list xs))(h2:∀U,z.ok G U->U.rd l2=some (.list []))(q:Q (.bool (!xs.isEmpty)) z):m_ G (bm .NotEq) (.ref l1) (.ref l2) z Q:=
 ⟨λ F m U k=>ah hn (yT (h1 U k) (h2 U k) ⟨z,k,q⟩)⟩
theorem E_(hn:G.n=n+1)(h1:∀U,z.ok G U->U.rd l1=some (.tup []))(h2:∀U,z.ok G U->U.rd l2=some (.tup []))(q:Q (.bool false) z):m_ G (bm .NotEq) (.ref l1) (.ref l2) z Q:=
 ⟨λ F m U k=>ah hn (wT (h1 U k) (h2 U k) ⟨z,k,q⟩)⟩
theorem Ov(hn:G.n=n+1)(h1:(l1,lT ts)∈E)(h2:(l2,lT us)∈E)(t1:lC ts E)(t2:lC us E)(hs:ts.map (·.1)=us.map (·.1))(q:Q (.bool false) (.s A S E)):m_ G (bm .NotEq) (.ref l1) (.ref l2) (.s A S E) Q:=
 ⟨λ F m U (T:St G.me A S U E)=>by
  have H:HS (some (G.me,A,S)) U E:=T
  exact ah hn (EJ H h1 h2 t1 t2 hs (jt T q))⟩
theorem Jp(hn:G.n=n+4)(hl:(l,lT us)∈E)(h1:1<=k)(h4:k<=4)(hlen:∀e∈us,e.1.length=k)(hT:lC us E)
  (q:∀D o es,vj (CX G.X).w k o es->(∀b,b∈es.map (·.1)↔b∈us.map (·.1))->(∀e∈es,e∈us)->Q (.ref D) (.s A S ((D,.raw o)::E))):nX G (.type "set") [.ref l] (.s A S E) Q:=
 ⟨λ F m U (T:St G.me A S U E)=>by
  have H:HS (some (G.me,A,S)) U E:=T
  exact ah hn (JP (items:=us) (H.lst hl) h1 h4 hlen (λ e he=>H.tup (hT e he)) λ D o es hD hT hm hi=>⟨_,jx (z:=.s A S E) T hD,q D o es hT hm hi⟩)⟩
theorem Fa(hS:(D,.raw ob)∈E)(hT:vj (CX G.X).w k ob es)(h4:k<=4)(q:Q (vn es.length) (.s A S E)):nX G (.builtin "len") [.ref D] (.s A S E) Q:=
 ⟨λ F m U (T:St G.me A S U E)=>G_ (e0 (T.at_ hS) (by intro _ _ h;cases h)) hT h4 (jt T q)⟩
theorem w0(hS:(D,.raw ob)∈E)(hT:vj (CX G.X).w k ob es)(h1:1<=k)(h4:k<=4)(ht:lC es E)(q:∀D (ys:TL),ys.Perm es->ys.Pairwise (λ x y=>num x.1<num y.1)->Q (.ref D) (.s A S ((D,lT ys)::E))):nX G (.builtin "sorted") [.ref D] (.s A S E) Q:=
 ⟨λ F m U (T:St G.me A S U E)=>ye (T.at_ hS) hT h1 h4 (λ e he=>T.at_ (ht e he)) λ D ys hD hp hw=>⟨_,jx (z:=.s A S E) T hD,q D ys hp hw⟩⟩
theorem u0(hS:(l,lT us)∈E)(h1:1<=k)(hlen:∀e∈us,e.1.length=k)(hnd:(us.map (·.1)).Nodup)(h64:us.length<64)(ht:lC us E)(q:∀D (ys:TL),ys.Perm us->ys.Pairwise (λ x y=>num x.1<num y.1)->Q (.ref D) (.s A S ((D,lT ys)::E))):nX G (.builtin "sorted") [.ref l] (.s A S E) Q:=
 ⟨λ F m U (T:St G.me A S U E)=>wd (T.at_ hS) h1 hlen hnd h64 (λ e he=>T.at_ (ht e he)) λ D ys hD hp hw=>⟨_,jx (z:=.s A S E) T hD,q D ys hp hw⟩⟩
end
end
section
section
variable{G:Gx}{A A' :Ad}{S S' :SS}{E E' N:List (Addr×ba)}{n:Nat}{z z' :Zs}{Q:VQ}{ts us:TL}
theorem Kg(hy:m.lookup y=some (.v (.ref D)))(hD:∀U,z.ok G U->U.rd D=some (.tup [v1,v2,v3,v4]))
  (o1:fx G x1=true) (o2:fx G x2=true) (o3:fx G x3=true) (o4:fx G x4=true) (q:QS .next (put (put (put (put m x1 v1) x2 v2) x3 v3) x4 v4) z):l6 G (.Assign [.Tuple [.Name x1 p1,.Name x2 p2,.Name x3 p3,.Name x4 p4] k tp] (.Name y py) pos) m z QS:=
 ⟨λ F U g ok=>λ O=>FU rfl rfl rfl (f_ (nE hy) ⟨D,_,rfl,hD U ok,rfl,lw (gg (eZ g O o1) (lw (gg (eZ g O o2) (lw (gg (eZ g O o3) (lw (gg (eZ g O o4) (AJ ⟨_,z,ah (d5 ..) (ah (d5 ..) (ah (d5 ..) (ah (d5 ..) rfl))),ok,q⟩))))))))⟩) O⟩
theorem yK{α:Type}{ws:List α}{e:α}{f:α->Bool}(he:ws[i]? =some e)(h:f e=true):(ws.take (i+1)).filter f=(ws.take i).filter f++[e]:=ah bw (ah he (ae (dZ ..) (ah (AP ..) (ah cO (ah (if_pos h) rfl)))))
theorem yL{α:Type}{ws:List α}{e:α}{f:α->Bool}(he:ws[i]? =some e)(h:f e=false):(ws.take (i+1)).filter f=(ws.take i).filter f:=ah bw (ah he (ae (dZ ..) (ah (AP ..) (ah cO (ah (if_neg (λ q=>by replace q:=h▸q;exact (iP q).elim)) (cw _))))))
theorem lh(ts us:TL):d_ (ts++us)=d_ ts++d_ us:=aE
structure TA(so:List Nat)(td ab:TL)(B:List (Addr×ba))(i:Nat)(ys:List Value)(p:TL×List (Addr×ba)):Prop where
 ys:ys=d_ p.1
 all:lC p.1 (p.2++B)
 eq:p.1.map (·.1)=((ab.map λ e=>mr so e.1).take i).filter λ b=> !decide (b∈td.map (·.1))
theorem C'(h:E.Perm E'):jm G (.s A S E) (.s A S E'):=λ U (T:St G.me A S U E)=>T.perm h
theorem la.sz{vs:List Value}(s:jm G z z')(h:la G f vs z' Q):la G f vs z Q:=⟨λ U k=>h.run U (s U k)⟩
structure Sz where
 A:Ad
 S:SS
 nw:TL
 bud:Nat
 N:List (Addr×ba)
structure Sw(k:Nat)(so:List Nat)(td es:TL)(cs:CE)(bud:Nat)(B:List (Addr×ba))(i:Nat)(p:Sz):Prop where
 R:Rs k (Wt cs k so (td++p.nw)) p.bud p.S
 all:lC (td++p.nw) (p.N++B)
 len:p.nw.length=i
 nd:(p.nw.map (·.1)).Nodup
 sub:∀b∈p.nw.map (·.1),b∈es.map (·.1)
 bl:p.bud<=bud+18*i
theorem HO{cells:List Int}{ws td:TL}{cs:CE}{as:List Int}(hn:G.n=n+5)(hz:cells.length<=1000)(W':kk+40<=100000)(K:Gq sa wa so ws cs k E)
  (Xl:(sc,.tup [vn k,.ref sa,.ref wa,.ref ta])∈E) (Xd:(aa,.list (as.map vi))∈E) (has:as.length<=1000) (Vc:∀l∈as,1<=l.natAbs/\l.natAbs<=k) (hTd:lC td E) (R:Rs k (Wt cs k so td) bud S) (hb:bud<=20000) (hnd:(td.map (·.1)).Nodup) (VX:∀b∈td.map (·.1),∃e∈ws,mr so e.1=b)
  (q:∀A' S' (Yo :TL) Yq N YS,OT k (Wt cs k so Yo) as YS S' false->lC Yo (N++E)->(Yo.map (·.1)).Nodup->(∀b∈Yo.map (·.1),∃e∈ws,mr so e.1=b)->YS <=bud+1000->Yq <=kk+40->Q (.bool true) (.s A' S' (vJ fd cl ta cells Yq Yo (N++E)))):
  la G 263 [.ref fd,.ref G.me,.ref sc,.ref aa] (.s A S (vJ fd cl ta cells kk td E)) Q:=by
 refine enter hn ["feed","search","scene","assumed"] [.v (.ref fd),.me,.v (.ref sc),.v (.ref aa)] rfl rfl rfl (λ vs h=>by refine Ar (PV h) λ V V V V Uv=>?_;subst Uv;rfl) rfl ?_
 have XV:=K.card
 have VT:=K.len
 have hw:=K.hw
 have hs:=K.hs
 have hT:=K.hT
 have W_:=K.k5
 have VM:=K.s4
 refine Kg rfl (kI (.tail _ (.tail _ (.tail _ Xl)))) rfl rfl rfl rfl ?_
 have hrl:(d_ ws).length=ws.length:=ag ..
 refine .mk wa _ (d_ ws) Unit (λ V=> .s A S (vJ fd cl ta cells kk td E)) (λ i ys V=>ys=d_ ((ws.take i).filter λ e=>as.all λ l=>qh e.1 l)) () rfl rfl (ac (aC hrl) (ac XV (af _ _))) rfl d0 (λ i ys V U V k=>dX (.tail _ (.tail _ (.tail _ hw))) k) (λ i ys V v hv hys V=>?_) λ ys V hys V ab=>?_
 ·refine aH (jW hv) λ e he Uy=>?_;subst Uy
  have hem:=am he
  have Yu:=VT e hem
  refine .mk aa _ (as.map vi) Unit (λ V=> .s A S (vJ fd cl ta cells kk td E)) (λ j ys V=>ys=((as.take j).map (qh e.1)).map cf) () rfl rfl (ah (ag ..) (ac has (af _ _))) rfl d0 (λ i ys V U V k=>dX (.tail _ (.tail _ (.tail _ Xd))) k) (λ j Ym V v2 hv2 VF V=>?_) λ Ym V VF V b=>?_
  ·refine aH (ij hv2) λ l hl UB=>?_;subst UB
   have hlr:=Vc l (am hl)
   exact Az rfl (.tail _ (.tail _ (.tail _ (hT e hem)))) hlr.1 (xc Yu hlr.2) (ac (aC Yu) (ac W_ (af _ _))) ⟨(),(ah VF (ah bw (ah hl (ah aE (ah aE rfl))))),d0⟩
  ·replace VF:=bn▸(ag ..)▸VF
   subst VF
   refine Jt (bN (.head _)) ⟨λ hb=>⟨(),?_,nU⟩,λ hb=>⟨(),?_,nU⟩⟩
   ·replace hb:=mE▸hb
    exact ah hys (ah (yK he hb) (ah (lh ..) rfl))
   ·replace hb:=mE▸hb
    exact ae hys (ah (yL he hb) rfl)
 replace hys:=bn▸hrl▸hys
 subst hys
 have hal:∀e∈ws.filter (λ e=>as.all λ l=>qh e.1 l),e∈ws/\as.all (λ l=>qh e.1 l)=true:=λ e he=>bx.mp he
 have haz:(ws.filter λ e=>as.all λ l=>qh e.1 l).length<=32:=ac (gF _ _) XV
 generalize hable:(ws.filter λ e=>as.all λ l=>qh e.1 l)=ab_ at hal haz
 have hrl2:(d_ ab_).length=ab_.length:=ag ..
 refine .mk ab _ (d_ ab_) (TL×List (Addr×ba)) (λ p=> .s A S (p.2++((ab,lT ab_)::vJ fd cl ta cells kk td E))) (TA so td ab_ ((ab,lT ab_)::vJ fd cl ta cells kk td E)) ([],[]) rfl rfl (ac (aC hrl2) (ac haz (af _ _))) ⟨rfl,λ e he=>(nomatch he),rfl⟩ d0 (λ i ys p U V k=>dX (ak _ (.head _)) k) (λ i ys p v hv J V=>?_) λ ys p J V db=>?_
 ·refine aH (jW hv) λ e he UC=>?_;subst UC
  refine aP (hal e (am he)) λ hew V=>?_
  have hi:(ab_.map λ e=>mr so e.1)[i]? =some (mr so e.1):=ae ay (ah he rfl)
  have up:∀{x},x∈E->x∈p.2++(ab,lT ab_)::vJ fd cl ta cells kk td E:=λ h=>ak _ (.tail _ (.tail _ (.tail _ (.tail _ h))))
  have hr:∀v∈so,1<=v/\v<=e.1.length:=λ v hv=>ah (VT e hew) (K.sr v hv)
  have h10:e.1.length<=1000:=ah (VT e hew) (ac W_ (af _ _))
  refine mZ rfl (up (hT e hew)) (up hs) hr h10 (ac VM (af _ _)) λ D1=>(E7 rfl (ak _ (.tail _ (.tail _ (.tail _ (.head _))))) (λ e he=>up (hTd e he)) ⟨λ h=>?_,λ h=>?_⟩)
  ·refine mZ rfl (.tail _ (up (hT e hew))) (.tail _ (up hs)) hr h10 (ac VM (af _ _)) λ D2=>⟨(p.1++[(mr so e.1,D2)],(D2,tB (mr so e.1))::(D1,tB (mr so e.1))::p.2),⟨?_,?_,?_⟩,d0⟩
   ·exact ah J.ys (ah (lh ..) rfl)
   ·exact (J.all.mono λ V h=> .tail _ (.tail _ h)).app λ q hq=>ah (aq.mp hq) (.head _)
   ·exact ae aE (ah J.eq (ah (yK hi h) rfl))
  ·exact ⟨p,⟨J.ys,J.all,ae J.eq (ah (yL hi h) rfl)⟩,nU⟩
 ·obtain ⟨us,N⟩:=p
  have hys:=J.ys
  have hu:=J.all
  have VI:=J.eq
  dsimp only at hys hu VI
  rw [hrl2,mz (by rw [ag];exact aw _)] at VI
  (try clear J);subst hys
  have hulen:∀e∈us,e.1.length=so.length:=λ e he=>by
   have:e.1∈us.map (·.1):=bo he
   replace this:=VI▸this
   exact aH (aF.mp (bx.mp this).1) λ q V hq=>(dt hq (ag ..))
  refine Jp (k:=so.length) rfl (.head _) (im.mpr K.s0) VM hulen (hu.mono λ V h=> .tail _ h) λ Sd od es Yt hmem V=>(Fa (.head _) Yt VM ?_)
  obtain ⟨ZU,es4⟩:(es.map (·.1)).Nodup/\es.length<=16:=by
   refine wP Yt λ V V V V V V hl hn V=>?_;clear Yt
   exact ⟨hn,qk VM hl hn⟩
  refine m7 (ac es4 (af _ _)) λ Rg=>?_
  have hesd:∀b∈es.map (·.1),b∉td.map (·.1)/\∃e∈ws,mr so e.1=b:=λ b hb=>by
   rewrite [hmem] at hb;replace hb:=VI▸hb
   exact aP (bx.mp hb) λ h1 h2=>(aH (aF.mp h1) λ e he Xo=>⟨(λ q=>by replace h2:=decide_eq_true q▸h2;exact (iP h2).elim),e,(hal e he).1,Xo⟩)
  have has6:(as.map vi).length<=1000000:=ah (ag ..) (ac has (af _ _))
  obtain ⟨B,hB⟩:∃B,(Rg,ba.rng 0 es.length)::(Sd,.raw od)::(db,lT us)::(ab,lT ab_)::N++E=B:=⟨_,rfl⟩
  have hRB:(Rg,ba.rng 0 es.length)∈B:=hB▸ .head _
  have haB:(ab,lT ab_)∈B:=hB▸ .tail _ (.tail _ (.tail _ (.head _)))
  have hEB:∀x∈E,x∈B:=λ x h=>hB▸ .tail _ (.tail _ (.tail _ (.tail _ (ak _ h))))
  refine .mk Rg (.rng 0 es.length) (fX 0 es.length) Sz (λ V=>[("feed",.v (.ref fd)),("search",.me),("assumed",.v (.ref aa)),("many",.v (vn k)),("some",.v (.ref sa)),("worlds",.v (.ref wa)),("told",.v (.ref ta)),("able",.v (.ref ab))])
   (λ p=> .s p.A p.S (vJ fd cl ta cells (kk+2*p.nw.length) (td++p.nw) (p.N++B))) (Sw k so td es cs bud B) ⟨A,S,[],bud,[]⟩ rfl rfl ?_ rfl ?_ (λ i p U V k=>dX (.tail _ (.tail _ (.tail _ (ak _ hRB)))) k) ?_ ?_
  ·exact ⟨ah (cw ..) R,ah (cw ..) (hTd.mono hEB),rfl,.nil,λ b hb=>(nomatch hb),aw _⟩
  ·exact ah (cw ..) (dt hB (C' ((ju.append_left [(Rg,ba.rng 0 es.length),(Sd,.raw od),(db,lT us)]).trans (((cY N [(fd,dQ cl kk),(cl,ba.list (cells.map vi)),(ta,lT td)] E).append_left [(Rg,ba.rng 0 es.length),(Sd,.raw od),(db,lT us),(ab,lT ab_)]).trans (cY [(Rg,ba.rng 0 es.length),(Sd,.raw od),(db,lT us),(ab,lT ab_)] [(fd,dQ cl kk),(cl,ba.list (cells.map vi)),(ta,lT td)] (N++E))))))
  ·intro i p v hv J _
   refine aP (jM hv) λ XX UF=>?_;clear UF
   have K2:=K.mono λ V h=>ak p.N (hEB _ h)
   obtain ⟨A1,S1,nw,Xx,N1⟩:=p
   obtain ⟨R1,hI1,hnl,Wr,hne,hbb⟩:=J
   dsimp only at R1 hI1 hnl Wr hne hbb K2
   have haa2:(aa,ba.list (as.map vi))∈N1++B:=ak _ (hEB _ Xd)
   have hab2:(ab,lT ab_)∈N1++B:=ak _ haB
   refine u5 (bN (.tail _ (.tail _ (.tail _ haa2)))) has6 λ L1=>(EV rfl (.head _) R1 W_ (QI XX hbb es4 hb) has Vc λ A2 S2 b2 hF=>?_)
   cases b2 with
   | false=>
    exfalso
    refine aH (EB K hal Vc VI hmem ZU XX hnl) λ w hw1 hw2=>(aH (hF.fls rfl w hw1) λ a Zj Yx=>?_)
    replace Yx:=hw2 a Zj▸Yx;exact (v8 Yx).elim
   | true=>
   refine ck (hF.tru rfl) λ hnr UP X4=>(aP UP λ hok hnt=>?_);clear UP
   have R2:=hF.rs
   refine cF (pO (by decide) (QH W_) λ Rk=>(ah (show ((k:Int)+1-1).toNat=k from jK (k+1) 1) (.mk Rk (.rng 1 k) (fX 1 k) Unit (λ V=> .s A2 S2 ((Rk,.rng 1 k)::vJ fd cl ta cells (kk+2*nw.length) (td++nw) (N1++B))) (λ j ys V=>ys=(oW j (wA S2)).map cf) () rfl rfl (ah (dp ..) (ac W_ (af _ _))) rfl (l_ ((bC _ _).cons_cons _)) (λ i ys V U V k=>dX (.head _) k) (λ j ys V v2 hv2 hys V=>?_) λ ys V hys V Lw=>?_)))
   ·refine aP (jM hv2) λ UQ UT=>?_;clear UQ;subst UT
    refine HH rfl ⟨(),(ah hys ?_),d0⟩
    unfold oW
    exact ah iG (ah aE (ah aE (ah (show ((1:Int)+(j:Int))=((j+1:Nat):Int) by exact MC) rfl)))
   replace hys:=(dp ..)▸hys
   subst hys
   have htbl:(oW k (wA S2)).length=k:=GN _ _
   have hsr:∀v∈so,1<=v/\v<=(oW k (wA S2)).length:=λ v hv=>ah htbl (K.sr v hv)
   have hwin:oW k (wA S2)∈ab_.map (·.1):=by
    have h1:oW k (wA S2)∈ws.map (·.1):=ah K.ww (bx.mpr ⟨xT _ _,hok⟩)
    exact aH (aF.mp h1) λ e he Xo=>(aF.mpr ⟨e,(dt hable (bx.mpr ⟨he,bZ.mpr λ l hl=>(ah Xo (ae (mF _ (Vc l hl).1 (Vc l hl).2) (X4 l hl)))⟩)),Xo⟩)
   have hup:∀{x},x∈N1++B->x∈vJ fd cl ta cells (kk+2*nw.length) (td++nw) (N1++B):=λ h=> .tail _ (.tail _ (.tail _ h))
   generalize oW k (wA S2)=tw at htbl hsr hwin hok hnt
   refine m6 (bN (.head _)) (ah (ag ..) (ac (aC htbl) (ac W_ (af _ _)))) λ Wd=>?_
   refine mZ rfl (.head _) (.tail _ (.tail _ (.tail _ (hup K2.hs)))) hsr (ac (aC htbl) (ac W_ (af _ _))) (ac VM (af _ _)) λ Ch=>(H6 rfl (.tail _ (.tail _ (hup hab2))) (λ t ht=> .tail _ (.tail _ (hup (K2.hT t (hal t ht).1)))) ⟨λ h=>?_,λ V=>?_⟩)
   ·replace h:=decide_eq_true hwin▸h;exact (iP h).elim
   refine Oy rfl (.tail _ (.tail _ (.tail _ (.tail _ (.tail _ (.head _)))))) (hI1.mono λ V h=> .tail _ (.tail _ (.tail _ (hup h)))) (cD (λ h=>absurd h hnt) λ V=>cF ?_)
   have hces:mr so tw∈es.map (·.1):=by
    refine gk (hmem ..) (ah VI (bx.mpr ⟨?_,?_⟩))
    ·exact aH (aF.mp hwin) λ e he Xo=>(aF.mpr ⟨e,he,ah Xo rfl⟩)
    ·have:mr so tw∉td.map (·.1):=λ q=>hnt (ah aE (av _ q))
     exact ah (decide_eq_false this) rfl
   have htlen:(td++nw).length<=1000:=by
    have h1:((td++nw).map (·.1)).Nodup:=ah aE (cU.mpr ⟨hnd,Wr,λ x hx y hy e=>(hesd y (hne y hy)).1 (e▸hx)⟩)
    have h2:=jl (ls:=ws.map λ e=>mr so e.1) h1 λ b hb=>by
     replace hb:=aE▸hb
     rcases az.mp hb with hb | hb
     ·exact aH (VX b hb) λ e he q=>(aF.mpr ⟨e,he,q⟩)
     ·obtain ⟨_,e,he,q⟩:=hesd b (hne b hb);exact aF.mpr ⟨e,he,q⟩
    replace h2:=(ag ..)▸(ag ..)▸h2
    exact ac h2 (ac XV (af _ _))
   have hchl:(mr so tw).length=so.length:=ag ..
   generalize mr so tw=ch at hces hchl hnt
   have hrtl:(d_ (td++nw)).length=(td++nw).length:=ag ..
   refine bt (Af (bN (.tail _ (.tail _ (.tail _ (.tail _ (.tail _ (.tail _ (.head _))))))))) (y9 (v:=.ref Ch) (xs:=d_ (td++nw)) (.there (.there (.there (.there (.there (.there .here)))))) (ac (aC hrtl) (ac htlen (af _ _))) (ah (show d_ (td++nw)++[aZ Ch]=d_ (td++(nw++[(ch,Ch)])) by refine dt (cN ..) ?_;rewrite [lh (td++nw)];rfl) ?_))
   have hI4:lC (td++(nw++[(ch,Ch)])) ((Ch,tB ch)::(Wd,tB tw)::(N1++B)):=dt (cN ..) ((hI1.mono λ p hp=> .tail _ (.tail _ hp)).app λ q hq=>ah (aq.mp hq) (.head _))
   obtain ⟨W8,htd2⟩:∃W8,td++(nw++[(ch,Ch)])=W8:=⟨_,rfl⟩
   rw [htd2] at hI4⊢
   have hwT:lC ws (vJ fd cl ta cells (kk+2*nw.length) W8 ((Ch,tB ch)::(Wd,tB tw)::(N1++B))):=λ e he=> .tail _ (.tail _ (.tail _ (.tail _ (.tail _ (K2.hT e he)))))
   refine .mk wa _ (d_ ws) Unit (λ V=> .s A2 S2 (vJ fd cl ta cells (kk+2*nw.length) W8 ((Ch,tB ch)::(Wd,tB tw)::(N1++B)))) (λ j ys V=>ys=d_ ((ws.take j).filter λ e=> !decide (mr so e.1∈W8.map (·.1)))) () rfl rfl (ac (aC hrl) (ac XV (af _ _))) rfl ?_ (λ i ys V U V k=>dX (.tail _ (.tail _ (.tail _ (.tail _ (.tail _ K2.hw))))) k) (λ j ys V v2 hv2 hys V=>?_) λ ys V hys V Lf=>?_
   ·exact (l_ (((bC _ _).trans (bC _ _)).cons_cons _ |>.cons_cons _)).tr (C' (cY [(Ch,tB ch),(Wd,tB tw)] [(fd,dQ cl (kk+2*nw.length)),(cl,ba.list (cells.map vi)),(ta,lT W8)] (N1++B)))
   ·refine aH (jW hv2) λ e he U9=>?_;subst U9
    have hew:=am he
    refine mZ rfl (hwT e hew) (.tail _ (.tail _ (.tail _ (.tail _ (.tail _ K2.hs))))) (λ v hv=>ah (VT e hew) (K.sr v hv)) (ah (VT e hew) (ac W_ (af _ _))) (ac VM (af _ _)) λ D1=>?_
    exact E7 rfl (.tail _ (.tail _ (.head _))) (hI4.mono λ V h=> .tail _ (.tail _ (.tail _ h))) ⟨λ h=>⟨(),ah hys (ah (yK he h) (ah (lh ..) rfl)),nU⟩,λ h=>⟨(),ae hys (ah (yL he h) rfl),nU⟩⟩
   replace hys:=bn▸hrl▸hys
   subst hys
   refine bt (a0 _) λ Ln=>H_ rfl (bN (.tail _ (.head _))) (bN (.head _)) (la.sz Dc (B4 rfl hz (QG W' XX hnl es4) (.tail _ (.head _)) (.tail _ (.tail _ (.tail _ K2.hs))) hchl K.s0 (ac VM (af _ _)) λ ls Lc XF hll=>(EW (o:=.list (ls.map vi)) rfl (.head _) rfl R2 (ac W_ (af _ _)) (QF XX hbb es4 hb) (QE hll VM) (λ l hl=>HW K.sr l ((XF l).mp hl)) λ A4 S4 R4 V=>?_)))
   replace R4:=htd2▸(cN ..)▸Wt.add (D:=Ch) K.sr hchl XF▸R4
   have fin:Pr (G.sub (n+4) []) (Sw k so td es cs bud B (i+1)) (λ p=> .s p.A p.S (vJ fd cl ta cells (kk+2*p.nw.length) (td++p.nw) (p.N++B))) (.s A4 S4 ((Lc,.list (ls.map vi))::(fd,dQ cl (kk+2*nw.length+2))::(cl,.list (cells.map vi))::(ta,lT W8)::(Ch,tB ch)::(Wd,tB tw)::(N1++B))):=by
    refine ⟨⟨A4,S4,nw++[(ch,Ch)],Xx+17+1,(Ch,tB ch)::(Wd,tB tw)::N1⟩,⟨?_,?_,?_,?_,?_,?_⟩,?_⟩
    ·exact ((ah htd2 R4):Rs k (Wt cs k so (td++(nw++[(ch,Ch)]))) _ _)
    ·exact ((ah htd2 hI4):lC (td++(nw++[(ch,Ch)])) _)
    ·exact ((ae aA (ah hnl rfl)):(nw++[(ch,Ch)]).length=_)
    ·exact ((ah aE (cU.mpr ⟨Wr,aY.mpr ⟨dB,.nil⟩,λ x hx y hy e=>hnt (ah aE (ak _ ((show x=ch from e.trans (aq.mp hy))▸hx)))⟩)):((nw++[(ch,Ch)]).map (·.1)).Nodup)
    ·intro b hb
     have hb:b∈(nw++[(ch,Ch)]).map (·.1):=hb
     replace hb:=aE▸hb
     exact (az.mp hb).elim (hne b) λ h=>ah (aq.mp h) hces
    ·exact ((ac (aQ (aK _)) (bA hbb _)):Xx+17+1<=bud+18*(i+1))
    ·exact ((ah htd2 (ah aA nU)):jm _ _ (.s A4 S4 (vJ fd cl ta cells (kk+2*(nw++[(ch,Ch)]).length) (td++(nw++[(ch,Ch)])) _)))
   obtain ⟨j,hj,hzj⟩:=fin
   refine ⟨λ hr=>?_,λ hr=>cF ⟨j,hj,rfl,hzj⟩⟩
   have hr:S4.refuted=true:=by cases h:S4.refuted with
    | true=>rfl
    | false=>replace hr:=h▸hr;exact (iP hr).elim
   have hfin:(!(d_ (ws.filter λ e=> !decide (mr so e.1∈W8.map (·.1)))).isEmpty)=false:=by
    cases hemp:(ws.filter λ e=> !decide (mr so e.1∈W8.map (·.1))) with
    | nil=>rfl
    | cons e r=>
     exfalso
     have hem:e∈ws.filter λ e=> !decide (mr so e.1∈W8.map (·.1)):=ah hemp (.head _)
     refine aP (bx.mp hem) λ h1 h2=>?_
     have hek:oW k (I2 e.1)=e.1:=uh (VT e h1)
     refine R4.dead hr (I2 e.1) ⟨ah hek ((bx.mp (dt K.ww (bo h1))).2),λ q=>?_⟩
     replace q:=hek▸q
     replace h2:=decide_eq_true q▸h2;exact (iP h2).elim
   exact ⟨(λ h=>by replace h:=hfin▸h;exact (iP h).elim),λ V=>cF ⟨j,hj,rfl,hzj⟩⟩
  ·intro p J _
   replace J:=(dp ..)▸J
   obtain ⟨A1,S1,nw,Xx,N1⟩:=p
   obtain ⟨R1,hI1,hnl,Wr,hne,hbb⟩:=J
   dsimp only at R1 hI1 hnl Wr hne hbb
   have haa2:(aa,ba.list (as.map vi))∈N1++B:=ak _ (hEB _ Xd)
   refine u5 (bN (.tail _ (.tail _ (.tail _ haa2)))) has6 λ L1=>(EV rfl (.head _) R1 W_ (QD hbb es4 hb) has Vc λ A2 S2 b2 hF=>?_)
   cases b2 with
   | true=>
    exfalso
    refine ck (hF.tru rfl) λ hnr UM X4=>(aP UM λ hok hnt=>?_);clear UM
    have h1:oW k (wA S2)∈ws.map (·.1):=ah K.ww (bx.mpr ⟨xT _ _,hok⟩)
    refine aH (aF.mp h1) λ e he Xo=>?_
    have h2:e∈ab_:=dt hable (bx.mpr ⟨he,bZ.mpr λ l hl=>(ah Xo (ae (mF _ (Vc l hl).1 (Vc l hl).2) (X4 l hl)))⟩)
    have h3:mr so (oW k (wA S2))∈es.map (·.1):=by
     refine gk (hmem ..) (ah VI (bx.mpr ⟨aF.mpr ⟨e,h2,ah Xo rfl⟩,?_⟩))
     have:mr so (oW k (wA S2))∉td.map (·.1):=λ q=>hnt (ah aE (av _ q))
     exact ah (decide_eq_false this) rfl
    have h4:(mr so (oW k (wA S2))::nw.map (·.1)).Nodup:=aY.mpr ⟨λ q=>hnt (ah aE (ak _ q)),Wr⟩
    have h5:=jl (ls:=es.map (·.1)) h4 λ b hb=>by
     rcases aM.mp hb with rfl | hb
     ·exact h3
     ·exact hne b hb
    replace h5:=(ag ..)▸(ag ..)▸bM▸h5
    exact cj (ai (aK _) h5) (dc hnl)
   | false=>
    have eB:N1++B=(N1++((Rg,ba.rng 0 es.length)::(Sd,.raw od)::(db,lT us)::(ab,lT ab_)::N))++E:=dt hB (ah (cN ..) rfl)
    refine lg (A:=A2) (S:=S2) (E:=vJ fd cl ta cells (kk+2*nw.length) (td++nw) ((N1++((Rg,ba.rng 0 es.length)::(Sd,.raw od)::(db,lT us)::(ab,lT ab_)::N))++E)) (dt eB nU) λ V=>q A2 S2 (td++nw) _ _ Xx hF (eB▸hI1) ?_ ?_ (QC hbb es4) (QB hnl es4)
    ·exact ah aE (cU.mpr ⟨hnd,Wr,λ x hx y hy e=>(hesd y (hne y hy)).1 (e▸hx)⟩)
    ·intro b hb
     replace hb:=aE▸hb
     rcases az.mp hb with hb | hb
     ·exact VX b hb
     ·exact (hesd b (hne b hb)).2
end
end
section
noncomputable def OF(C:Cx)(f:Addr)(args:List Value)(P:Heap->Prop)(Q:Value->Prop):Prop:=
 ∀s Us,oP C s->OS C s.heap->Us.map er=args->P s.heap->
  iZ (bR C.prog C.w) callerA (.call (.ref f) ⟨Us,[]⟩) (λ r s' =>∃v,r=.ok (.ret v)/\Q (er v)/\(∀b o,s.heap.get? b=some o->s'.heap.get? b=some o)/\oP C s') s
theorem Fz{P:Heap->Prop}{names:List Str}{Q:Value->Prop}
  (ho:C.K.lookup f=some ⟨oc,od,.func (TJ name qual params body scope dV kV Xe pm an Vj ct),Yp⟩) (VU:RO C.K Vj qual=true)
  (hlen:args.length=names.length)
  (VH:∀vs:List Value,vs.length=names.length->IL (TJ name qual params body scope dV kV Xe pm an Vj ct) ⟨vs,[]⟩=eu (names.zip vs))
  (hkind:∀x∈names,kU x=true/\(scope.names.lookup x=some .local\/scope.names.lookup x=some .cell))
  (hnd:((dz 0 scope.names []).map (·.1)).Nodup) (WZ:∀x∈scope.names,x.2≠ .free)
  (Yw:scope.isCoroutine=false) (WN:scope.isGenerator=false) (hk:scope.kind=.function) (hn:n<=25)
  (hw:∀b:Bk,P b.h₀->WS C (Fn b qual scope f Vj) n body (BB (names.zip args) λ V=>none) [] λ fl V U' =>Q (er (match fl with | .ret v=>v | _=> .none))):
  OF C f args P Q:=by
 intro s Us hC G Vi hP
 have hlen' :Us.length=names.length:=dt hlen (dt Vi (ah (ag ..) rfl))
 have hsub:names.zip args=(names.zip Us).map λ p=>(p.1,er p.2):=dt Vi (ae kM rfl)
 refine codeAny_call_function (by decide) (G.X _ _ ho) rfl Yw WN rfl (codeRec_of G.X VU) (tA (VH Us hlen') _ _ _ _ (wpAny_newFunctionEnv_cells hk ?_ λ env' he s' x=>?_))
 ·intro x hx
  have hxn:x.1∈names:=(gB (a:=x.1) (b:=x.2) hx).1
  rcases (hkind _ hxn).2 with q | q
  ·exact .inl q
  ·exact .inr ⟨q,gv _ _ _ (.inl q)⟩
 subst he
 refine ⟨G.T.nolimit.keeps x.toInCall.keep,codeAny_func (cu x.done λ Ut tk Uv V=>?_)⟩;subst Uv
 have hk₁:=x.toInCall.keep
 refine aH (Cl.news (h₀:=s.heap) (aw _) λ n c hm=>⟨x.cell n c (lookup_of_mem_nodup (cellsFrom_names scope.names 0 (s.heap.objs.size+1) [] [] rfl▸hnd) hm),x.above n c hm⟩) λ cells NC Y=>?_
 have F' :Fr s.heap s.heap.objs.size Ut (bindL (Ga qual scope s.heap.objs.size f Vj).kindOf (names.zip Us) λ V=>none):=⟨x.toInCall.ns,x.toInCall.keep,x.toInCall.fresh⟩
 let b:Bk:=⟨callerA,callerA,[],s.heap,s.heap,s.heap.objs.size⟩
 have Wh:=jh scope.names (s.heap.objs.size+1) (s.heap.objs.size+1) [] (λ V h=>nomatch h) .nil (aw _)
 have O:(Fn b qual scope f Vj).Ok C n:=by
  refine ⟨below_caller s.heap,rfl,rfl,hk,G,hk,rfl,rfl,λ V=>rfl,(λ h=>nomatch h),rfl,Wh.1,λ x hx=>?_,λ V V h=>h,λ x hx V=>?_,?_,?_⟩
  ·exact ik (bP (Wh.2 x hx))
  ·rcases hx with hx | hx
   ·exact cz.mp (gv _ _ _ (.inl hx))
   ·exact absurd rfl (WZ _ (mem_of_lookup hx))
  ·have h1:(Fn b qual scope f Vj).A.depth=302:=rfl
   have:RG=1000:=rfl
   exact MH this h1 hn
  ·have h1:(Fn b qual scope f Vj).A.units<=100:=by refine (?_:callerA.units+_<=_);decide
   have:CJ=9900:=rfl
   exact MG this h1 hn
 have R' :cQ C (Fn b qual scope f Vj) [] {s with heap:=Ut,toks:=tk} (BB (names.zip args) λ V=>none) []:=by
  have cellOwn:∀a∈(Fn b qual scope f Vj).ownA,∃o,(a,o)∈cells:=by
   intro a ha
   simp only [dD.ownA,AQ,aV,if_false,cw] at ha
   refine aH (aF.mp ha) λ x hx Uy=>?_;subst Uy
   exact aH (gT Y x hx) λ o h V=>⟨o,h⟩
  refine ⟨hC.upd,⟨_,F'⟩,(λ V h=>nomatch h),⟨_,F'.ns⟩,?_,?_,?_,(λ V h=>nomatch h),(λ V V h=>nomatch h),(λ V V h=>nomatch h)⟩
  ·intro x v hx
   replace hx:=hsub▸hx
   obtain ⟨a,cv,e,q⟩:=sn (Ga qual scope s.heap.objs.size f Vj).kindOf (names.zip Us) (λ V=>none) (λ V=>none) (λ V=>none) (λ V V h=>nomatch h)
    (λ p hp=>hkind _ (gB (a:=p.1) (b:=p.2) hp).1) x v hx
   simp only [kU,dL,dh] at a
   refine ⟨a.1,a.2,cv,e,?_⟩
   rcases q with ⟨k,q⟩ | ⟨k,q⟩
   ·exact .inl ⟨k,_,F'.ns,q⟩
   ·refine .inr ⟨.inl k,?_⟩
    have hs:((dz (s.heap.objs.size+1) scope.names []).lookup x).isSome=true:=gv _ _ _ (.inl k)
    exact aS (cz.mp hs) λ c hc=>(aH (gT Y _ (mem_of_lookup hc)) λ o h hd=>⟨c,hc,o,(NC _ h).1,ae hd (congrArg _ q)⟩)
  ·intro x hx
   exact aH (gT Y x hx) λ o h hd=>(ib _ o ((NC _ h).1) hd)
  ·intro a ha
   exact aS (cellOwn a ha) λ o h=>(ck (NC _ h) λ h1 h2 h3=>(dn ⟨⟨o,h1⟩,h2,h3⟩ rfl (λ V h=>nomatch h)))
 refine dG (hw b hP O _ _ _ R' λ fl s' m' U' Va hq=>?_) (λ V V q=>q) uw
 exact oa _ rfl hq (λ b o e=>Va.keep b o e) Va.core
end
section
section
variable{C:Cx}{F:dD}{n:Nat}{m:Str->Option Value}{U U' :AH}{P:Option (Addr×Ad×SS)}{E E' :List (Addr×ba)}
theorem K_{vs xs:List Value}{value:Expr}{hi:Expr}{p pos:Pos}{Q:Value->AH->Prop}(hs:AL (.Slice none (some hi) none p))(hh:F.h₀.IsList a vs.toArray)(hx:vs.map er=xs)(hz:xs.length<=1000000)(H:HS P U E)
  (hv:∀K:Value->AH->Prop,K (.ref a) U->WE C F n value m U K) (hu:∀K:Value->AH->Prop,K (vi i) U->WE C F n hi m U K)
  (h:∀D U',HS P U' ((D,.list (lL xs none (some i) none))::E)->Q (.ref D) U'):WE C F n (.Subscript value (.Slice none (some hi) none p) pos) m U Q:=λ O Z s W R K=>
 LF (hv (λ v U' =>v=.ref a/\U' =U) ⟨rfl,rfl⟩ O Z s _ R λ o s₁ U1 R₁ ⟨e,ZT⟩=>by
  refine lA e ?_
  clear R hv;subst ZT
  have h2:WP C F n (some hi) m U1 (λ u U' =>u=some i/\U' =U1):=hu (λ v U' =>∃k,v=vi k/\some k=some i/\U' =U1) ⟨i,rfl,rfl,rfl⟩
  have h1:WP C F n none m U1 (λ u U' =>u=none/\U' =U1):=⟨rfl,rfl⟩
  refine T8 (dG (h1.run O R₁) (λ l s₂ ⟨Uq,li,R₂,pl,e2,e2'⟩=>by
   clear R₁ h1 hu;subst e2 e2'
   exact dG (h2.run O R₂) (λ u s₃ ⟨Ux,ui,R₃,pu,e3,e3'⟩=>by
    clear R₂ h2;subst e3 e3'
    have h3:WP C F n none m Ux (λ u U' =>u=none/\U' =Ux):=⟨rfl,rfl⟩
    exact dG (h3.run O R₃) (λ c s₄ ⟨U4,ci,R₄,pc,e4,e4'⟩=>by
     clear R₃ h3;subst e4 e4'
     have hlen:=eK hx
     refine cX hh λ ob hob hc Uv=>?_;clear hh;refine aS Uv λ k hd=>?_;clear Uv
     have hl:s₄.heap.IsList a vs.toArray:=⟨ob,R₄.keep _ _ hob,hc,k,hd⟩
     have R₅:cQ C F Z {s₄ with heap:=s₄.heap.push {cls:=.type "slice",data:=.fields #[l,u,c]}} m U4:=R₄.grow O ⟨R₄.core.gens,R₄.core.os,R₄.core.dr⟩ λ b o e=>bb _ e
     have hl' :(s₄.heap.push {cls:=.type "slice",data:=.fields #[l,u,c]}).IsList a vs.toArray:=⟨ob,bb _ (R₄.keep _ _ hob),hc,k,hd⟩
     refine aS (hs (.ref a) (.ref s₄.heap.objs.size)) λ VC e=>(RE (T:="list") (s:={s₄ with heap:=s₄.heap.push {cls:=.type "slice",data:=.fields #[l,u,c]}}) hl'.typeIs tj.lookup (Ck hl' (sS _ _ _ _) pl pu pc (by simp) (K _ _ _ (R₅.push (tk:=s₄.toks) O (o:={cls:=.type "list",data:=.seq (n0 vs.toArray none (some i) none)}) (ao:=.list (lL xs none (some i) none)) ?_).1 (h _ _ (H.fresh (R₅.fresh R₅.size_none)))) (ah bc (ah b_ (ac (aC hlen) (ac hz (af _ _)))))) e)
     refine ib ((n0 vs.toArray none (some i) none).toList) 0 ?_ ?_
     ·exact ah jF (bp _ rfl)
     ·exact ae (zP ..) (ah hx rfl)) uw) uw) uw))
noncomputable def Tx(D:Addr)(a va b vb:Value)(U:AH)(Q:Value->AH->Prop):Prop:=∃i j P E E',a=.str i 0/\b=.str j 0/\i≠j/\HS P U E/\jP D (.sdict []) (.sdict [(i,va),(j,vb)]) E E' /\∀U',HS P U' E' ->Q (.ref D) U'
theorem BO{Q:Value->AH->Prop}(H:HS P U E)(h:∀D U',HS P U' ((D,.sdict [])::E)->WE C F n k1 m U' λ a U1=>WE C F n v1 m U1 λ va Uq=>WE C F n k2 m Uq λ b Ux=>WE C F n v2 m Ux λ vb U4=>Tx D a va b vb U4 Q):WE C F n (.Dict [some k1,some k2] [v1,v2] pos) m U Q:=
 Ce λ D hD=>(h D _ (H.fresh hD)).mono λ a U1 Ut=>Ut.mono λ va Uq UL=>UL.mono λ b Ux h₃=>h₃.mono λ vb U4 Uy=>by refine Ar Uy λ i j P E UB=>?_;clear Uy;obtain ⟨E',e1,e2,e3,H',ht,q⟩:=UB;exact Oh i j e1 e2 e3 (H'.at_ ht.mem) (q _ (H'.turn ht))
theorem xi{Q:Value->AH->Prop}(h:WE C F n e₁ m U λ v U1=>v=.bool true/\WE C F n (.BoolOp .And (e₂::rest) pos) m U1 Q):WE C F n (.BoolOp .And (e₁::e₂::rest) pos) m U Q:=λ O Z s W R K=>
 BoolOp_and (h O Z s _ R λ v s₁ U1 R₁ ⟨e,Ut⟩=>Gp e (jB (Ut O Z s₁ _ R₁ K)))
theorem FO{Q:Value->AH->Prop}(h:WE C F n e m U Q):WE C F n (.BoolOp .And [e] pos) m U Q:=λ O Z s W R K=>BoolOp_one (h O Z s _ R K)
theorem BQ(p:iu):pY (KK p) du "Search"=some (some (.ref 220)):=by kernel_rfl
end
theorem B6:∀k∈[3,4],∀mk∈bk 16,1<=mk->mk<2^k->(((bk k).map (·+1)).filter λ v=>decide (mk/2^(v-1)%2=1))≠[]:=by decide
section
variable{C:Cx}{F:dD}{n:Nat}{m:Str->Option Value}{U U' :AH}{X:Sx}{P:Option (Addr×Ad×SS)}{E E' N:List (Addr×ba)}{a b:Addr}{o o' :ba}{ts us:TL}
theorem zK:∀{xs ys:List (List Bool)},xs.Pairwise (λ x y=>num x<num y)->ys.Pairwise (λ x y=>num x<num y)->(∀b,b∈xs↔b∈ys)->xs=ys
 | [],[],_,_,_=>rfl
 | [],y::ys,_,_,h=>absurd ((h y).mpr (.head _)) (by simp)
 | x::xs,[],_,_,h=>absurd ((h x).mp (.head _)) (by simp)
 | x::xs,y::ys,hx,hy,h=>by
  refine aP (fh.mp hx) λ Xj XB=>?_
  (try clear hx);refine aP (fh.mp hy) λ Wq Xz=>?_
  have hxy:x=y:=by
   rcases aM.mp ((h x).mp (.head _)) with e | h1
   ·exact e
   ·rcases aM.mp ((h y).mpr (.head _)) with e | h2
    ·exact e.symm
    ·exact absurd (nu (Wq x h1) (Xj y h2)) (xx _)
  clear hy;subst hxy
  congr 1
  refine zK XB Xz λ b=>⟨λ hb=>?_,λ hb=>?_⟩
  ·clear Wq;rcases aM.mp ((h b).mp (.tail _ hb)) with rfl | h1
   ·exact absurd (Xj _ hb) (xx _)
   ·exact h1
  ·clear Xj;rcases aM.mp ((h b).mpr (.tail _ hb)) with rfl | h1
   ·exact absurd (Wq _ hb) (xx _)
   ·exact h1
noncomputable def W0(cs:CE)(i:Nat)(w:Nat->Bool):Prop:=∀e∈cs.take i,∃x∈e.1,iI w x=true
theorem IC(cs:CE):W0 cs 0=λ V=>True:=by
 funext w
 exact eq_true λ e he=>by cases he
theorem ID(h:cs[i]? =some e):W0 cs (i+1)=λ w=>W0 cs i w/\∃x∈e.1,iI w x=true:=by
 funext w
 unfold W0
 refine ah bw (ah h (propext ⟨λ H=>⟨λ e' he=>H e' (av _ he),H e (ak _ (.head _))⟩,λ UO e' he=>(aP UO λ H1 H2=>?_)⟩));clear UO
 rcases az.mp he with he | he
 ·exact H1 e' he
 ·exact ah (aq.mp (show e' ∈[e] from he)) H2
theorem Ld(h:∀e∈cs,∀l∈e.1,1<=l.natAbs/\l.natAbs<=k):W0 cs cs.length=Wt cs k so []:=by
 funext w
 unfold W0 Wt
 refine ah bn (propext ⟨λ H=>⟨bZ.mpr λ e he=>?_,dB⟩,λ H e he=>?_⟩)
 ·exact aH (H e he) λ x hx hs=>(dK.mpr ⟨x,hx,ae (mF _ (h e he x hx).1 (h e he x hx).2) hs⟩)
 ·exact aH (dK.mp (bZ.mp H.1 e he)) λ x hx hs=>(bY x hx (sV (mF _ (h e he x hx).1 (h e he x hx).2) hs))
end
end
section
theorem Fy{R:eY->Zs->Prop}{Q:ig->(Str->Option Value)->AH->Prop}(g:GF G F)(hR:∀m z U,R m z->z.ok G U->WS (CX G.X) F G.n rest (dA G.me m) U Q):
  ∀(pre:List Stmt) (k:Nat) (m:eY) (z:Zs) (U:AH),(Wk k G).s pre m z (λ f m z=>f=.next/\R m z)->z.ok G U->WS (CX G.X) F G.n (pre++rest) (dA G.me m) U Q
 | _,0,_,_,_,h,_=>h.elim
 | [],k+1,m,z,U,h,ok=>hR m z U h.2 ok
 | b::r,k+1,m,z,U,h,ok=>pT ((zH (jH k) h g ok).mono λ f m' U' Uv=>by
   obtain ⟨m1,UG,e,Y0,q⟩:=Uv
   subst e
   cases f with
   | next=>exact Fy g hR r k m1 UG U' q Y0
   | _=>cases q.1)
theorem K7{R:eY->Zs->Prop}{Q:ig->(Str->Option Value)->AH->Prop}(i:Nat)(g:GF G F)(ok:z.ok G U)(h:(Wk 99 G).s (body.take i) m z (λ f m z=>f=.next/\R m z))
  (hR:∀m z U,R m z->z.ok G U->WS (CX G.X) F G.n (body.drop i) (dA G.me m) U Q):WS (CX G.X) F G.n body (dA G.me m) U Q:=
 fj i body▸Fy g hR (body.take i) 99 m z U h ok
theorem DS{m:Str->Option Value}(e:dA me [(x,.v w)] y=some v):fA m x w y=some v:=by
 replace e:=(show dA me [(x,.v w)]=fA (dA me []) x w from (d5 me [] x w).symm)▸e
 unfold fA at e⊢
 split at e
 ·rename_i h;exact ae (if_pos h) e
 ·exact (bH e).elim
theorem Jq(hi:i.natAbs<2^64)(h0:0<=j)(h1:j<=1000000)(q:Q (vi (i^j.toNat)) z):m_ G (fB .Pow) (vi i) (vi j) z Q:=⟨λ F m U ok=>J3 hi h0 h1 ⟨z,ok,q⟩⟩
noncomputable def sk(mk v:Nat):Bool:=decide (mk/2^(v-1)%2=1)
inductive OP(fd cl:Addr)(cells:List Int):eY->Zs->Prop where
 | mk (k kk mk:Nat) (cs:CE) (so:List Nat) (Wp Wo:List Int) (A0 A1 A2 Lo Cl Ss:Addr) (N:List (Addr×ba)) (V7:3<=k) (VJ:k<=4) (W':kk<=60) (hcz:cs.length<=6) (hC:OQ cs N) (Xp:∀e∈cs,e.1.length<=3/\∀l∈e.1,1<=l.natAbs/\l.natAbs<=k)
  (hso:so≠[]) (hsr:∀v∈so,1<=v/\v<=k) (hs4:so.length<=4) (l0:Wp.length<=10) (l1:Wo.length<=10) (r0:∀l∈Wp,1<=l.natAbs/\l.natAbs<=k) (r1:∀l∈Wo,1<=l.natAbs/\l.natAbs<=k):
  OP fd cl cells [("lots",.v (.ref Lo)),("some",.v (.ref Ss)),("mask",.v (vn mk)),("clauses",.v (.ref Cl)),("many",.v (vn k)),("feed",.v (.ref fd))]
   (.no ((Lo,.list [.ref A0,.ref A1,.ref A2])::(A2,.list [])::(A1,.list (Wo.map vi))::(fd,dQ cl kk)::(cl,.list (cells.map vi))::(A0,.list (Wp.map vi))::(Ss,.list (so.map vn))::(Cl,.list (jn cs))::N))
theorem IW(h:E.Perm E'):jm G (.no E) (.no E'):=λ V T=>Fl.perm T h
structure Sv where
 cs:CE
 kk:Nat
 N:List (Addr×ba)
structure Tu(k:Nat)(i:Nat)(ys:List Value)(p:Sv):Prop where
 ys:ys=jn p.cs
 all:OQ p.cs p.N
 len:p.cs.length=i
 le:p.kk<=2+7*i
 rng:∀e∈p.cs,e.1.length<=3/\∀l∈e.1,1<=l.natAbs/\l.natAbs<=k
theorem rr:∀{m:eY},m.all (λ p=> !p.2.isMe)=true->dA me m=dA me' m
 | [],_=>rfl
 | (x,w)::r,h=>by
  refine aP (bf.mp h) λ h1 h2=>?_
  have ih:=rr (me:=me) (me' :=me') h2
  funext y
  have e:=congrFun ih y
  unfold dA at e⊢
  refine ah bv ?_
  (try clear h);cases y==x with
  | true=>
   (try clear h);cases w with
   | v x=>rfl
   | me=>exact (iP h1).elim
  | false=>exact e
theorem wx(x y:Str)(v:Value)(h:m.all (λ p=> !p.2.isMe)=true):fA (fA (dA 0 m) y v) x (.ref me)=dA me ((x,.me)::put m y v):=by
 refine ah (rr (me' :=me) h) (ah (d5 ..) (ae (d5 ..) ?_))
 funext z
 unfold dA put
 simp only [bv]
 cases z==x<;>rfl
theorem Kh(k:Nat)(h:(Wk k G).e e1 m z λ v z=>v=.bool true/\(Wk k G).e e2 m z λ v z=>v=.bool true/\(Wk k G).e e3 m z Q):iQ G (.BoolOp .And [e1,e2,e3] p) m z Q:=
 ⟨λ F U g ok=>xi (((jH k).e h g ok).bd (α:=λ V=>True) λ v UG U1 Uw q=>⟨q.1,xi (((jH k).e q.2 g Uw).bd (α:=λ V=>True) λ v UR Uq UE q=>⟨q.1,FO ((jH k).e q.2 g UE)⟩)⟩)⟩
structure Su where
 A:Ad
 S:SS
 td:TL
 kk:Nat
 N:List (Addr×ba)
 bud:Nat
structure Ts(k:Nat)(so:List Nat)(ws:TL)(cs:CE)(E:List (Addr×ba))(i:Nat)(p:Su):Prop where
 R:Rs k (Wt cs k so p.td) p.bud p.S
 all:lC p.td (p.N++E)
 nd:(p.td.map (·.1)).Nodup
 tw:∀b∈p.td.map (·.1),∃e∈ws,mr so e.1=b
 bl:p.bud<=10+1100*i
 kl:p.kk<=60+40*i
 fin:i=3->p.S.refuted=true/\p.S.blamed=[]
structure TC(so:List Nat)(ws:TL)(B:List (Addr×ba))(i:Nat)(ys:List Value)(p:TL×List (Addr×ba)):Prop where
 ys:ys=d_ p.1
 all:lC p.1 (p.2++B)
 eq:p.1.map (·.1)=(ws.take i).map λ e=>mr so e.1
theorem DZ(hX:Rq X){xs:List Int}(hz:xs.length<=63):OF (CX X) 268 [.ref sa] (λ h=>∃vs:List Value,h.IsList sa vs.toArray/\vs.map er=xs.map vi) (· =.bool true):=by
 refine Fz (n:=12) (names:=["script"]) rfl rfl rfl (λ vs h=>by refine aS (wD h) λ V Uy=>?_;subst Uy;rfl) (by decide) (by decide) (by decide) rfl rfl rfl (by decide) ?_
 intro b UB;refine aH UB λ vs hL hx=>?_;clear UB
 have H0:HS none [] []:=(⟨λ p hp=>(by cases hp),eJ⟩:Fl [] [])
 refine pT (qs rfl ⟨rfl,rfl,.inr ⟨rfl,_,rfl⟩⟩ ?_)
 have hli:HU.lookup (bg "list")=some (.type "list"):=rfl
 refine BO H0 λ fd U1 H1=>zb (sB rfl (Kd _ (fY hli)) (KU (fY hli)) (by decide) rfl (gl rfl) (jj (λ V=>rfl) (K_ (a:=sa) (i:=50) (λ V V=>⟨_,rfl⟩) hL hx (ah (ag ..) (ac hz (af _ _))) H1 (λ K k=>f_ (uC (show [bg "script"].Nodup by decide) rfl) k) (λ K k=>zc k) λ S0 Uq H2=>oN ?_)))
 have h50:lL (xs.map vi) none (some 50) none=(xs.take 50).map vi:=ah (show (50:Int)=((50:Nat):Int) from rfl) (ae (jX ..) (ah iD rfl))
 replace H2:=h50▸H2
 have hcz:(xs.take 50).length<=1000:=ah bL (ac (iJ _ _) (af _ _))
 generalize xs.take 50=cells at H2 hcz
 clear h50 H1
 refine Eh H2 (.head _) (ah (ag ..) (ac hcz (af _ _))) λ cl Ux H3=>zb (zc ⟨_,_,_,_,_,rfl,rfl,by decide,H3,.there (.there .here),λ U4 H4=>?_⟩)
 have H5:Zs.ok ⟨X,12,0,[]⟩ (.no ((fd,dQ cl 0)::(cl,ba.list (cells.map vi))::[])) U4:=(H4.subl (E' :=[(cl,ba.list (cells.map vi)),(fd,dQ cl 0)]) (.cons_cons _ (.cons _ (.refl _)))).perm (jT _ _ _)
 clear H2 H3 H4 H0
 refine WS.mem (K7 (G:=⟨X,12,0,_⟩) (z:=.no [(fd,dQ cl 0),(cl,ba.list (cells.map vi))]) 5 ⟨λ x k e V=>e,λ x e=> .inr e,rfl,rfl⟩ H5 (R:=OP fd cl cells) ?_ ?_) λ x v e=>DS (me:=0) e
 case refine_2=>
  clear H5
  intro m z U UC ok;obtain ⟨k,kk,mk,cs,so,Wp,Wo,A0,A1,A2,Lo,Cl,Ss,N,V7,VJ,W',hcz2,hC,Xp,hso,hsr,hs4,l0,l1,r0,r1⟩:=UC
  have H:Fl U ((fd,dQ cl kk)::(cl,.list (cells.map vi))::(Lo,ba.list [.ref A0,.ref A1,.ref A2])::(A2,.list [])::(A1,.list (Wo.map vi))::(A0,.list (Wp.map vi))::(Ss,.list (so.map vn))::(Cl,.list (jn cs))::N):=
   Fl.perm ok (cY [(Lo,ba.list [.ref A0,.ref A1,.ref A2]),(A2,.list []),(A1,.list (Wo.map vi))] [(fd,dQ cl kk),(cl,.list (cells.map vi))] _)
  clear ok
  obtain ⟨E0,hE0⟩:∃E0,(Lo,ba.list [.ref A0,.ref A1,.ref A2])::(A2,.list [])::(A1,.list (Wo.map vi))::(A0,.list (Wp.map vi))::(Ss,.list (so.map vn))::(Cl,.list (jn cs))::N=E0:=⟨_,rfl⟩
  replace H:=hE0▸H
  have hLo:(Lo,ba.list [.ref A0,.ref A1,.ref A2])∈E0:=hE0▸ .head _
  have hA2:(A2,ba.list (([]:List Int).map vi))∈E0:=hE0▸ .tail _ (.head _)
  have hA1:(A1,ba.list (Wo.map vi))∈E0:=hE0▸ .tail _ (.tail _ (.head _))
  have hA0:(A0,ba.list (Wp.map vi))∈E0:=hE0▸ .tail _ (.tail _ (.tail _ (.head _)))
  have hSs:(Ss,ba.list (so.map vn))∈E0:=hE0▸ .tail _ (.tail _ (.tail _ (.tail _ (.head _))))
  have hCl:(Cl,ba.list (jn cs))∈E0:=hE0▸ .tail _ (.tail _ (.tail _ (.tail _ (.tail _ (.head _)))))
  have hC2:OQ cs E0:=λ e he=>hE0▸ .tail _ (.tail _ (.tail _ (.tail _ (.tail _ (.tail _ (hC e he))))))
  clear hC hE0 N
  have hrng:∀e∈cs,∀l∈e.1,1<=l.natAbs/\l.natAbs<=k:=λ e he=>(Xp e he).2
  refine pT (AK rfl rfl ⟨rfl,rfl,.inl rfl⟩ ⟨rfl,rfl,.inl rfl⟩ (pB (jj (λ V=>rfl) (xh rfl (BQ _) rfl rfl (gl rfl) (jj (λ V=>rfl) (f_ (v:=.ref Cl) rfl (jj (λ V=>rfl) (f_ (v:=vn k) rfl (oN (yW (fI:=118) rfl rfl rfl ⟨_,_,Fl.xt H _ (.head _)⟩ λ me ns nx nn hne=>?_))))))))))
  have HF:Fl ((U.put ns (.ns [])).put me (.inst 220 ns)) ((ns,.ns [])::(me,.inst 220 ns)::(fd,dQ cl kk)::(cl,.list (cells.map vi))::E0):=Fl.perm (HS.fresh (P:=none) (HS.fresh (P:=none) H nn) ((AH.get_put_ne hne).trans nx)) (.swap _ _ _)
  clear nx nn hne H
  have hrf:jn cs=(cs.map (·.2)).map aZ:=by unfold jn;exact ah bI rfl
  have hI:la ⟨X,11,me,[]⟩ 118 [.ref me,.ref Cl,vn k] (.mk me ns [] ((fd,dQ cl kk)::(cl,.list (cells.map vi))::E0)) (λ v z=>v=.none/\∃A S,z=.s A S ((fd,dQ cl kk)::(cl,.list (cells.map vi))::E0)/\Rs k (Wt cs k so []) cs.length S):=by
   refine KO (G:=⟨X,11,me,[]⟩) (cas:=cs.map (·.2)) (cls:=cs.map (·.1)) (many:=k) (I:=λ i S=>Rs k (W0 cs i) i S) hX rfl (.tail _ (.tail _ (by exact dt hrf hCl))) (by exact ae (ag ..) (ah (ag ..) rfl)) ?_ (by exact ac VJ (af _ _)) (by exact ah (IC ..) (Rs.init k)) ?_ λ A S hG=>⟨rfl,A,S,rfl,?_⟩
   ·intro i c hc
    replace hc:=ay▸hc
    refine aH (aX.mp hc) λ e he UF=>?_;subst UF
    exact bY e.1 (by exact ae ay (ah he rfl)) (.tail _ (.tail _ (hC2 e (am he))))
   ·intro i S ls XF hG _
    replace XF:=ay▸XF
    refine aH (aX.mp XF) λ e he UP=>?_;subst UP
    have hil:i<cs.length:=(al.mp he).1
    have hem:=am he
    obtain ⟨k1,k2,k3,k4,k5,k6,k7,k8,k9,k10⟩:=Rs.add (by exact ac VJ (af _ _)) (by exact ac (aG hil) (ac hcz2 (af _ _))) hG (ls:=e.1) (by have:=(Xp e hem).1;exact au this (by decide)) (hrng e hem)
    rw [<-ID he] at k9 k10
    exact ⟨k1,k2,k3,k4,k5,k6,k7,k8,λ hp=>(k9 hp).1,λ hp c hc=>(k10 hp c hc).1⟩
   ·replace hG:=Ld (so:=so) hrng▸(ag ..)▸hG
    exact hG
  refine (hI.run _ HF).mono λ v τ ⟨z1,ok1,e,A,S,e2,R0⟩=>⟨e,?_⟩
  subst e2
  clear hI HF hrf e
  refine jj (λ V=>rfl) (ah (rr (me:=0) (me' :=me) rfl) (((jH 9).e (G:=⟨X,12,me,_⟩) (z:=.s A S ((fd,dQ cl kk)::(cl,.list (cells.map vi))::E0)) (Q:=λ v z=>∃Wa ws N2,v=.ref Wa/\z=.s A S (N2++((fd,dQ cl kk)::(cl,.list (cells.map vi))::E0))/\(Wa,lT ws)∈N2/\lC ws (N2++((fd,dQ cl kk)::(cl,.list (cells.map vi))::E0))/\ws.map (·.1)=(pR k).filter (DM cs))
   ?hw ⟨λ x k e V=>e,λ x e=> .inr e,rfl,rfl⟩ ok1).bd (α:=λ V=>True) λ v z2 U2 Zo q=>?_))
  case hw=>exact EP rfl (by exact ac VJ (af _ _)) (.tail _ (.tail _ hCl)) (λ e he=> .tail _ (.tail _ (hC2 e he))) (by exact ac hcz2 (af _ _)) (λ e he=>⟨by have:=(Xp e he).1;exact ac this (af _ _),hrng e he⟩) λ D ts N h1 h2 h3=>⟨D,ts,N,rfl,rfl,h1,h2,h3⟩
  (try clear ok1);refine On q λ Wa ws N2 UQ UT hWa hI hws=>?_;clear q;subst UQ;subst UT
  refine oN ⟨some (me,A,S),_,Zo,aT rfl,λ a U3 H3=>⟨a,.ref me,.ref Wa,rfl,H3.tup (.head _),(dt (rr (me:=0) (me' :=me) rfl) (ah (wx _ _ _ rfl) ?_))⟩⟩
  have H4:Zs.ok ⟨X,12,me,[]⟩ (.s A S ((fd,dQ cl kk)::(cl,.list (cells.map vi))::(N2++E0))) U3:=HS.perm (P:=some (me,A,S)) (HS.subl H3 (bC _ _)) (cY N2 [(fd,dQ cl kk),(cl,.list (cells.map vi))] E0)
  have hIE:lC ws (N2++E0):=λ e he=>(az.mp (hI e he)).elim (λ h=>av _ h) λ h=>by
   clear H3 H4 hI Zo;cases h with
   | tail _ h=>cases h with
    | tail _ h=>exact ak _ h
  have YM:=ak N2 hLo
  have YL:=ak N2 hSs
  have YK:=av E0 hWa
  have YQ:=ak N2 hA0
  have YO:=ak N2 hA1
  have YN:=ak N2 hA2
  clear H3 Zo hLo hSs hWa hA0 hA1 hA2 hI hCl hC2
  generalize N2++E0=E1 at*
  refine ((jH 99).s (G:=⟨X,12,me,_⟩) (z:=.s A S ((fd,dQ cl kk)::(cl,.list (cells.map vi))::E1)) (Q:=λ f V V=>DB f=.bool true) ?_ ⟨λ x k e V=>e,λ x e=> .inr e,rfl,rfl⟩ H4).bd λ f m z U k q=>by cases f<;>exact q
  clear H4
  refine bt (a0 _) λ Ta=>bt (aT rfl) λ Sc=>?_
  have hSc:(Sc,ba.tup [vn k,.ref Ss,.ref Wa,.ref Ta])∈(Sc,ba.tup [vn k,.ref Ss,.ref Wa,.ref Ta])::E1:=.head _
  have K:Gq Ss Wa so ws cs k ((Sc,ba.tup [vn k,.ref Ss,.ref Wa,.ref Ta])::E1):=⟨.tail _ YL,.tail _ YK,hIE.mono λ p hp=> .tail _ hp,hws,hsr,hso,hs4,by exact ac VJ (af _ _)⟩
  have hlot:∀i v,[aZ A0,.ref A1,.ref A2][i]? =some v->∃aa as,v=.ref aa/\(aa,ba.list (as.map vi))∈(Sc,ba.tup [vn k,.ref Ss,.ref Wa,.ref Ta])::E1/\(∀l∈as,1<=l.natAbs/\l.natAbs<=k)/\as.length<=1000/\i<3/\(i=2->as=[]):=λ i v h=>by
   match i,h with
   | 0,h=>have U9:=sI h;clear h;subst U9;exact Ex A0 Wp rfl (.tail _ YQ) r0 (by exact ac l0 (af _ _)) (by decide) (λ e=>by cases e)
   | 1,h=>have UM:=sI h;clear h;subst UM;exact Ex A1 Wo rfl (.tail _ YO) r1 (by exact ac l1 (af _ _)) (by decide) (λ e=>by cases e)
   | 2,h=>have UW:=sI h;clear h;subst UW;exact Ex A2 [] rfl (.tail _ YN) (λ l hl=>by cases hl) (by decide) (by decide) (λ V=>rfl)
   | i+3,h=>exact (bH h).elim
  clear YQ YO YN YL YK hIE
  refine .mk Lo (.list [.ref A0,.ref A1,.ref A2]) _ Su (λ V=>[("scene",.v (.ref Sc)),("search",.me),("worlds",.v (.ref Wa)),("some",.v (.ref Ss)),("feed",.v (.ref fd))])
   (λ p=> .s p.A p.S (vJ fd cl Ta cells p.kk p.td (p.N++((Sc,ba.tup [vn k,.ref Ss,.ref Wa,.ref Ta])::E1)))) (Ts k so ws cs ((Sc,ba.tup [vn k,.ref Ss,.ref Wa,.ref Ta])::E1)) ⟨A,S,[],kk,[],cs.length⟩ rfl rfl ?_ rfl ?_ ?_ ?_ ?_
  ·exact ⟨R0,(λ e he=>nomatch he),.nil,(λ b hb=>nomatch hb),by exact ((ac hcz2 (af _ _)):cs.length<=_),by exact (W':kk<=_),(λ h=>nomatch h)⟩
  ·exact C' ((cY [(Sc,ba.tup [vn k,.ref Ss,.ref Wa,.ref Ta]),(Ta,.list [])] [(fd,dQ cl kk),(cl,.list (cells.map vi))] E1).trans (.cons _ (.cons _ (.swap _ _ _))))
  ·exact λ i p U V k=>dX (.tail _ (.tail _ (.tail _ (ak _ (.tail _ YM))))) k
  ·intro i p v hv J _
   refine Jn (hlot i v hv) λ aa as UV Xd Vc YJ ZF hi2=>?_;subst UV
   have K2:=K.mono λ V h=>ak p.N h
   have hkl:=J.kl
   have hbl:=J.bl
   refine HO rfl hcz (by exact QA ZF hkl) K2 (ak _ hSc) (ak _ Xd) YJ Vc J.all J.R (by exact Qz ZF hbl) J.nd J.tw λ A4 S4 td4 kk4 N4 YR F4 hI4 hnd4 htw4 hb4 hk4=>cF ⟨⟨A4,S4,td4,kk4,N4++p.N,YR+17⟩,⟨F4.rs,by exact ah (cN ..) hI4,hnd4,htw4,by refine (?_:YR+17<=_);exact Qy hbl hb4,by exact ((ac hk4 (bA hkl _)):kk4<=_),λ e=>?_⟩,rfl,l_ (by exact ah (cN ..) (.refl _))⟩
   clear J Xd Vc YJ hbl ZF hkl hv;obtain rfl:i=2:=by exact jI e
   obtain rfl:=hi2 rfl
   exact ⟨F4.ref rfl rfl,F4.bl rfl⟩
  ·intro p J _
   obtain ⟨A3,S3,td,Yq,N3,bud⟩:=p
   obtain ⟨R3,ZQ,hnd,VX,V0,hkb,h3⟩:=J
   dsimp only at R3 ZQ hnd VX V0 hkb h3
   refine aP (h3 rfl) λ hrf hbl=>?_
   have hbud2:bud<=3310:=V0
   have K2:=K.mono λ V h=>ak N3 h
   have hSc2:=ak N3 hSc
   refine (?_:BI _ _ _ _ _ (.s A3 S3 (vJ fd cl Ta cells Yq td (N3++((Sc,ba.tup [vn k,.ref Ss,.ref Wa,.ref Ta])::E1)))))
   clear K hSc hlot YM
   generalize N3++((Sc,ba.tup [vn k,aZ Ss,aZ Wa,aZ Ta])::E1)=E3 at*
   have VT:=K2.len
   have XV:=K2.card
   have hall:∀e∈ws,mr so e.1∈td.map (·.1):=λ e he=>cS λ hno=>by
    have hek:oW k (I2 e.1)=e.1:=uh (VT e he)
    refine R3.dead hrf (I2 e.1) ⟨?_,?_⟩
    ·exact ah hek ((bx.mp (by exact dt hws (bo he))).2)
    ·exact ah hek hno
   have htl:∀e∈td,e.1.length=so.length:=λ e he=>by
    exact aH (VX e.1 (bo he)) λ q V hq=>(dt hq (ag ..))
   have htz:td.length<64:=by
    have h1:=jl (ls:=ws.map λ e=>mr so e.1) hnd λ b hb=>by
     exact aH (VX b hb) λ e he q=>(aF.mpr ⟨e,he,q⟩)
    replace h1:=(ag ..)▸(ag ..)▸h1
    exact Qx XV h1
   have hs1:1<=so.length:=im.mpr hso
   refine y7 (i:=3) (kI (.tail _ (.tail _ (.tail _ hSc2)))) (by decide) (aT rfl) rfl (u0 (k:=so.length) (.tail _ (.tail _ (.head _))) hs1 htl hnd htz (ZQ.mono λ V h=> .tail _ (.tail _ (.tail _ h))) λ D1 ys1 YG hpw1=>?_)
   have hrl:(d_ ws).length=ws.length:=ag ..
   obtain ⟨B,hB⟩:∃B,(D1,lT ys1)::vJ fd cl Ta cells Yq td E3=B:=⟨_,rfl⟩
   have hEB:∀x∈E3,x∈B:=λ x h=>hB▸ .tail _ (.tail _ (.tail _ (.tail _ h)))
   refine .mk Wa (lT ws) (d_ ws) (TL×List (Addr×ba)) (λ p=> .s A3 S3 (p.2++B)) (TC so ws B) ([],[]) rfl rfl (by exact ac (aC hrl) (ac XV (af _ _))) ⟨rfl,(λ e he=>nomatch he),rfl⟩ (hB▸d0) (λ i ys p U V k=>dX (ak _ (hEB _ K2.hw)) k) (λ i ys p v hv J V=>?_) λ ys p J V Db=>?_
   ·refine aH (jW hv) λ e he U8=>?_;subst U8
    have hew:=am he
    refine mZ rfl (ak _ (hEB _ (K2.hT e hew))) (ak _ (hEB _ K2.hs)) (λ v hv=>by exact ah (VT e hew) (hsr v hv)) (by exact ah (VT e hew) (ac VJ (af _ _))) (by exact ac hs4 (af _ _)) λ D2=>⟨(p.1++[(mr so e.1,D2)],(D2,tB (mr so e.1))::p.2),⟨?_,?_,?_⟩,d0⟩
    ·exact ah J.ys (ah (lh ..) rfl)
    ·exact (J.all.mono λ V h=> .tail _ h).app λ q hq=>by exact ah (aq.mp hq) (.head _)
    ·exact ae aE (ah J.eq (ah bw (ah he (ah aE rfl))))
   obtain ⟨us,N⟩:=p
   have hys:=J.ys
   have hu:=J.all
   have VI:=J.eq
   dsimp only at hys hu VI
   replace VI:=bn▸hrl▸VI
   (try clear J);subst hys
   have hulen:∀e∈us,e.1.length=so.length:=λ e he=>by
    have:e.1∈us.map (·.1):=bo he
    replace this:=VI▸this
    exact aH (aF.mp this) λ q V hq=>(dt hq (ag ..))
   refine Jp (k:=so.length) rfl (.head _) hs1 hs4 hulen (hu.mono λ V h=> .tail _ h) λ Sd od es Yt hmem hin=>(w0 (k:=so.length) (.head _) Yt hs1 hs4 (λ e he=> .tail _ (.tail _ (hu e (hin e he)))) λ D2 Ym YF hpw2=>?_)
   have hys:ys1.map (·.1)=Ym.map (·.1):=by
    refine zK (cE.mpr hpw1) (cE.mpr hpw2) λ b=>(gk ((YG.map _).mem_iff) (gk ((YF.map _).mem_iff) (gk (hmem ..) (ah VI ⟨λ hb=>?_,λ hb=>?_⟩))))
    ·exact aH (VX b hb) λ e he q=>(aF.mpr ⟨e,he,q⟩)
    ·refine aH (aF.mp hb) λ e he U7=>?_;subst U7
     exact hall e he
   refine Ov rfl (.tail _ (.tail _ (.tail _ (ak _ (hB▸ .head _))))) (.head _) (λ e he=> .tail _ (.tail _ (.tail _ (ak _ (hEB _ (ZQ e (YG.mem_iff.mp he))))))) (λ e he=> .tail _ (.tail _ (.tail _ (hu e (hin e (YF.mem_iff.mp he)))))) hys (cF (ET rfl (bt (a0 _) λ Tz=>E_ rfl (kT .blamed (by exact ((ah hbl rfl):some (ba.tup (S3.blamed.map vi))=_)) (by intro _ _ h;cases h)) (kI (.head _)) (cF (cF ?_)))))
   refine Kh 20 (bt (aT rfl) λ L1=>(EW (ls:=[1,-1]) (o:=.list [vi 1,vi (-1)]) rfl (.head _) rfl R3 (by exact ac VJ (af _ _)) (by exact ac hbud2 (af _ _)) (by decide) (λ l hl=>?_) λ A5 S5 R5 ZB=>⟨congrArg (λ b=>cf (!(!b))) (ZB hrf),?_⟩))
   ·simp at hl;exact Qw V7 hl
   refine bt (aT rfl) λ L2=>(EW (ls:=[-2]) (o:=.list [vi (-2)]) rfl (.head _) rfl R5 (by exact ac VJ (af _ _)) (by exact ac (bA hbud2 _) (ac (aw _) (af _ _))) (by decide) (λ l hl=>?_) λ A6 S6 R6 hr6=>⟨congrArg (λ b=>cf (!(!b))) (hr6 (ZB hrf)),?_⟩)
   ·simp at hl;exact Qv V7 hl
   refine bt (a0 _) λ L3=>(EV (as:=[]) rfl (.head _) R6 (by exact ac VJ (af _ _)) (by exact Qu hbud2) (by decide) (λ l hl=>(nomatch hl)) λ A7 S7 b7 F7=>?_)
   ·cases b7 with
    | true=>exact absurd (F7.tru rfl).2.1 (R6.dead (hr6 (ZB hrf)) _)
    | false=>rfl
 clear H5
 refine kY rfl (.no .here (.tail _ (.head _)) hcz (by decide)) (by decide) λ r r0 r1=>(aS (dH r0) λ r Ve=>?_);subst Ve
 obtain ⟨k,hk,V7,VJ⟩:∃k:Nat,3+r=k/\3<=k/\k<=4:=⟨3+r,rfl,by exact ax _ _,by exact aJ (MB r1) 3⟩
 dsimp only [Ae,DN,qm,jy]
 refine ah (show (3:Int)+(r:Int)=(k:Int) by exact congrArg IR hk) ?_
 clear hk r0 r1 r
 refine kY rfl (.no .here (.tail _ (.head _)) hcz (by decide)) (by decide) λ q q0 q1=>(aS (dH q0) λ nc Vk=>?_);subst Vk
 refine m7 (by exact aG (ai (bQ.mp q1) (ac (aw _) (af _ _)))) λ Rg=>(.mk Rg (.rng 0 nc) (fX 0 nc) Sv (λ p=> .no ((fd,dQ cl p.kk)::(cl,.list (cells.map vi))::(Rg,.rng 0 nc)::p.N)) (Tu k) ⟨[],2,[]⟩ rfl rfl (by exact ah (dp ..) (aG (ai (bQ.mp q1) (ac (aw _) (af _ _))))) ⟨rfl,λ e he=>(nomatch he),rfl,aw _,λ e he=>(nomatch he)⟩ (λ U T=>Fl.perm T (zu (l₁:=[_]) (l₂:=[_,_]))) (λ i ys p U V T=>uv (.tail _ (.tail _ (.head _))) T) (λ i ys p v hv J V=>?_) λ ys p J V Cl=>?_)
 ·have XX:=(jM hv).1
  have Vh:=J.le
  refine kY rfl (.no .here (.tail _ (.head _)) hcz (by exact Qt q1 XX Vh)) (by decide) λ r r0 r1=>(aS (dH r0) λ r Vg=>?_);subst Vg
  obtain ⟨ct,hc,hc1,hc2⟩:∃ct:Nat,1+r=ct/\1<=ct/\ct<=3:=⟨1+r,rfl,by exact ax _ _,by exact aJ (MB r1) 1⟩
  dsimp only [Ae,DN,qm,jy]
  refine ah (show (1:Int)+(r:Int)=(ct:Int) by exact congrArg IR hc) (oK (count:=ct) rfl hcz (by exact Qs r1 q1 hc XX Vh) (by exact ac (af _ _) V7) (by exact ac hc2 (af _ _)) λ ls Ls L=>(m6 (zT (.head _)) (by exact ah (ag ..) (ah L.len (ac hc2 (af _ _)))) λ D=>?_))
  refine ⟨⟨p.cs++[(ls,D)],p.kk+1+2*ct,(D,.tup (ls.map vi))::(Ls,.list (ls.map vi))::p.N⟩,⟨?_,?_,?_,?_,?_⟩,λ U T=>Fl.perm T (cY [(D,ba.tup (ls.map vi)),(Ls,.list (ls.map vi))] [(fd,dQ cl (p.kk+1+2*ct)),(cl,.list (cells.map vi)),(Rg,.rng 0 nc)] p.N)⟩
  ·refine ah J.ys ?_;unfold jn;exact ah aE rfl
  ·exact λ e he=>(az.mp he).elim (λ h=> .tail _ (.tail _ (J.all e h))) λ h=>by exact ah (aq.mp h) (.head _)
  ·exact ((ae aA (ah J.len rfl)):(p.cs++[(ls,D)]).length=_)
  ·refine (?_:p.kk+1+2*ct<=_)
   exact Qr r1 hc Vh
  ·exact λ e he=>(az.mp he).elim (J.rng e) λ h=>by exact ah (aq.mp h) ⟨by exact ((ah L.len hc2):ls.length<=3),L.rng⟩
 replace J:=(dp ..)▸J
 obtain ⟨rfl,hC,hcn,W',Xp⟩:=J
 obtain ⟨cs,kk,N⟩:=p
 dsimp only at hC hcn W' Xp
 have hcz2:cs.length<=6:=by exact xa hcn (MB q1)
 have hkk2:kk<=44:=by exact Qq q1 W'
 refine Jq (by decide) (by exact bG _) (by exact bU.mpr (ac VJ (af _ _))) (ah (dT ..) ?_)
 obtain ⟨W,hW,hW1,hW2⟩:∃W:Int,(2:Int)^k=W/\8<=W/\W=((2^k:Nat):Int):=by
  refine fV _ rfl ?_ (by simp)
  (try clear Xp);obtain rfl | rfl:k=3\/k=4:=by exact Kr V7 VJ
  ·decide
  ·decide
 refine ah hW (kY rfl (.no (.there .here) (.tail _ (.tail _ (.head _))) hcz (show kk<=100000 by exact ac hkk2 (af _ _))) (by exact Qp hW1) λ r r0 r1=>?_)
 (try clear hW2);obtain ⟨mk,hmk,hmk1,hmk2⟩:∃mk:Nat,(1:Int)+r=mk/\1<=mk/\mk<2^k:=⟨(1+r).toNat,by exact Qo r0,by exact Qn r0,by lia⟩
 dsimp only [Ae,DN,qm,jy]
 refine ah hmk ?_
 have hmk3:mk<16:=by
  clear hW Xp;obtain rfl | rfl:k=3\/k=4:=by exact Kr V7 VJ
  ·exact ai hmk2 (by decide)
  ·exact ai hmk2 (by decide)
 clear hmk r0 r1 hW hW1 W r
 refine pO (by decide) (by exact Qm VJ) λ Rg2=>(ah (show ((k:Int)+1-1).toNat=k from jK (k+1) 1) (.mk Rg2 (.rng 1 k) (fX 1 k) Unit (λ V=> .no ((Rg2,.rng 1 k)::(Cl,.list (jn cs))::(fd,dQ cl (kk+1))::(cl,.list (cells.map vi))::(Rg,.rng 0 nc)::N)) (λ i ys V=>ys=(((bk i).map (·+1)).filter (sk mk)).map vn) () rfl rfl (by exact ah (dp ..) (ac VJ (af _ _))) rfl (λ U T=>T) (λ i ys V U V T=>uv (.head _) T) (λ i ys V v hv hys V=>?_) λ ys V hys V Ss=>?_))
 ·refine aP (jM hv) λ hik Vs=>?_;subst Vs
  have hp:0<2^i:=Nat.pow_pos (by decide)
  have hp2:2^i<1073741824:=au (fG (by decide) (show i<=3 by exact aQ (ai hik VJ))) (by decide)
  have hfi:sk mk (i+1)=decide (mk/2^i%2=1):=rfl
  have hnx:((bk (i+1)).map (·+1)).filter (sk mk)=((bk i).map (·+1)).filter (sk mk)++if sk mk (i+1) then [i+1] else []:=by
   exact ah iG (ah aE (ae (dZ ..) (ah aU (ah mB (ah cO (ah List.filter_nil rfl))))))
  refine Jq (by decide) (by lia) (by exact Ql hik VJ) (ah (show ((1:Int)+i-1).toNat=i by exact Qk) (ah (show (2:Int)^i=((2^i:Nat):Int) by simp) ?_))
  generalize 2^i=p at hp hp2 hfi
  refine u6 (by exact Qj hp) (by exact hp2) (AF (by decide) ?_)
  have hde:decide ((Int.fdiv (mk:Int) (p:Int)).fmod 2=1)=sk mk (i+1):=by
   refine ah hfi (ah (Int.fdiv_eq_ediv_of_nonneg _ (by exact bG _)) (ah (Int.fmod_eq_emod_of_nonneg _ (by decide)) ?_))
   have:(mk:Int)/(p:Int)%2=((mk/p%2:Nat):Int):=by simp
   refine ah this ?_
   apply decide_eq_decide.mpr
   exact fQ
  refine ⟨λ h=>⟨(),?_,λ U T=>T⟩,λ h=>⟨(),?_,λ U T=>T⟩⟩
  ·exact ah hnx (dt hde (ah (if_pos (show decide _=true from h)) (ah hys (ah aE (ah (show (1:Int)+(i:Int)=((i+1:Nat):Int) by exact MC) rfl)))))
  ·exact ah hnx (dt hde (ah (if_neg (λ q=>by replace q:=(show decide _=false from h)▸q;exact (iP q).elim)) (ae hys (ah (cw ..) rfl))))
 replace hys:=(dp ..)▸hys
 subst hys
 have hso:((bk k).map (·+1)).filter (sk mk)≠[]:=B6 k (by simp;exact Kr V7 VJ) mk (bK.mpr hmk3) hmk1 hmk2
 have hsr:∀v∈((bk k).map (·+1)).filter (sk mk),1<=v/\v<=k:=λ v hv=>by
  refine aH (aF.mp (bx.mp hv).1) λ j hj Vr=>?_;subst Vr
  have:=bK.mp hj
  exact bt (bB (dN _)) (bB this)
 have hs4:(((bk k).map (·+1)).filter (sk mk)).length<=4:=by
  have h1:=gF (sk mk) ((bk k).map (·+1))
  replace h1:=eT▸(ag ..)▸h1
  exact ac h1 VJ
 generalize ((bk k).map (·+1)).filter (sk mk)=so at hso hsr hs4
 refine kY rfl (.no (.there (.there (.there .here))) (.tail _ (.tail _ (.tail _ (.tail _ (.head _))))) hcz (by exact ac (bA hkk2 _) (ac (aw _) (af _ _)))) (by decide) λ q q0 q1=>(aS (dH q0) λ c0 Vq=>?_);subst Vq
 refine la.sz (jm.tr (Me (E' :=(Ss,.list (so.map vn))::(Cl,.list (jn cs))::(fd,dQ cl (kk+1+1))::(cl,.list (cells.map vi))::N) (.cons_cons _ (.cons _ (.cons_cons _ (.cons_cons _ (.cons_cons _ (.cons _ (.refl _)))))))) (IW (cY [(Ss,ba.list (so.map vn)),(Cl,.list (jn cs))] [(fd,dQ cl (kk+1+1)),(cl,.list (cells.map vi))] N))) (oK (many:=k) (count:=c0) rfl hcz (by lia) (by exact ac (af _ _) V7) (by exact aG (ai (bQ.mp q1) (ac (aw _) (af _ _)))) λ Wp A0 L0=>(kY rfl (.no (.there .here) (.tail _ (.tail _ (.head _))) hcz (by lia)) (by decide) λ q p0 p1=>(aS (dH p0) λ c1 VL=>?_)));subst VL
 exact la.sz (IW (cY [(A0,ba.list (Wp.map vi))] [(fd,dQ cl (kk+1+1+2*c0+1)),(cl,.list (cells.map vi))] _)) (oK (many:=k) (count:=c1) rfl hcz (by lia) (by exact ac (af _ _) V7) (by exact aG (ai (bQ.mp p1) (ac (aw _) (af _ _)))) λ Wo A1 L1=>(bt (a0 _) λ A2=>bt (aT rfl) λ Lo=>⟨rfl,.mk k _ mk cs so Wp Wo A0 A1 A2 Lo Cl Ss N V7 VJ (by lia) hcz2 hC Xp hso hsr hs4 (by exact ah L0.len (aG (ai (bQ.mp q1) (ac (aw _) (af _ _))))) (by exact ah L1.len (aG (ai (bQ.mp p1) (ac (aw _) (af _ _))))) L0.rng L1.rng⟩))
end
section
theorem Kf(p:iu):pY (KK p) du "law"=some (some (.ref 268)):=by kernel_rfl
theorem SO{w:jk}{q:Program}{l mean mg mb o d}:Rq ⟨dJ.row.prog,w,q,l,mean,mg,mb,o,d⟩:=by
 refine ⟨?_,(by decide:(dJ.row.prog.main.scope.names.lookup ("super":Str)).isSome=false)⟩
 show uN (KK w.params) 118=some (bg "/claim/cut.py")
 have:∀p,uN (KK p) 118=some (bg "/claim/cut.py"):=λ p=>by kernel_rfl
 exact this _
theorem yG:∀{vs:List Value} {xs:List Int},IntsAre vs xs->vs.map er=xs.map vi:=by
 intro vs xs h
 induction h with
 | nil=>rfl
 | cons _ _ _ ih=>rw [aU,aU,ih];rfl
set_option tactic.hygienic true in
theorem Pf:dJ.Holds:=by
 refine holds_law (by kernel_rfl) λ said=>?_
 refine PySem.W.holds_open (q:=vw) (loose:=[]) (Xt:=λ s=>xlAt vw [] s&&recOk (L7 dJ.row.toRowW) s) (XP:=PySem.W.XL vw []) (Yf:=SL Ll) (Ya:=SK Ll) (YP:=Hook.says Ll) (N:=3872) hl (Hook.of Ll) (Hook.keeps Ll) (λ s e=>PySem.W.xl_of s (bf.mp e).1) SI (by rfl) (by rfl) (by rfl) (λ s e=>PySem.W.recFacts_of (bf.mp e).2) (by rfl) said (by decide+kernel) ⟨rfl,rfl,rfl,rfl,rfl,by decide+kernel⟩ ?hw ?hc
 case hw=>w_witness2
 intro w X0 s₁ mg mb G Y fa o pm cd Xe dV kV ho hd VU hD hmg hg args vals as hpre hlay hrd VT hlo
 have KX:=kIn_of (K:=KH) Y
 refine Ground.open G ?_
 intro T B D TE TW
 clear D
 have hmg' :mg (bg "law")=some (.ref fa):=hmg
 have h2:=(T_ KX T.g (Kf w.params)).symm.trans hmg'
 obtain rfl:fa=268:=by cases h2;rfl
 clear hD VU hd ho hmg hmg' h2
 wrow_args hpre hlay hrd VT hlo
 refine enter_call ?_
 refine eS ?_ (λ V V g=>GoodW.toG g)
 rename_i xs0 _ _ _ _ _ _ _ sa0 vs0 _ hL0 _ _ _ hI0 _ hc1 _
 refine eS (DZ (X:=⟨dJ.row.prog,w,vw,looseW vw [],ExcName.means X0.heap,mg,mb,s₁.os,s₁.drawn⟩) SO (xs:=xs0) (sa:=sa0) (by omega) s₁ [.ref sa0] ⟨hg,rfl,rfl⟩ ⟨KX,T⟩ rfl ⟨vs0,hL0,yG hI0⟩) λ r s' UO=>?_
 obtain ⟨v,e1,e2,e3,e4⟩:=UO
 subst e1
 rw [ir e2]
 exact ⟨.inl ⟨_,.bool true,[],rfl,λ V=>rfl,.bool _,postW_of (by wrow_shape) (by wtm_val) (by str_meet;first | done | w_fin),unshared_nil⟩,e3,e4.os,e4.gens⟩
end
end Mine
theorem PySem.Challenge.cw_nz0391_01_holds : PySem.Challenge.rw_nz0391_01.Holds :=
  Mine.Pf
