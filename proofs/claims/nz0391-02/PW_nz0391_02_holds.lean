import PyProof.Rows.All
import Wide.All
import OpenK.AllK
import Wide.FinOn
import Lean
import PySem.Challenge.RW_nz0391_02
open Nat renaming le_trans->ac,le_add_left->aj,lt_of_lt_of_le->aq,lt_of_le_of_lt->au,le_refl->az,le_add_right->aB,le_of_eq->aC,le_of_ble_eq_true->aH,le_of_lt->aP,add_le_add_left->aV,zero_le->bb,lt_succ_self->bn,ne_of_lt->bu,le_antisymm->bx,lt_trans->bD,succ_le_of_lt->bK,lt_irrefl->bP,add_le_add_right->b8,le_of_lt_succ->b_,succ_le_succ->cw,lt_or_ge->cx,add_le_add->di,ne_of_gt->dq,lt_of_le_of_ne->dy,min_eq_left->dz,le_of_not_lt->dC,add_right_comm->dL,le_succ->dR,eq_zero_or_pos->dX,lt_succ_of_le->eh,mul_le_mul_left->eF,succ_pos->eJ,not_lt->fp,sub_lt_sub_left->fw,succ_add->fP,sub_self->gC,add_lt_add_left->gK,sub_add_cancel->ic,add_assoc->iS,pow_le_pow_right->iX,min_le_left->jw,add_zero->jG,lt_succ_of_lt->ky,succ_lt_succ->ly,lt_add_of_pos_right->lz,zero_add->l8,sub_le->l9,not_lt_zero->mN,add_lt_of_lt_sub'->mW,sub_pos_of_lt->pW,lt_trichotomy->pX,le_of_succ_le->pY,add_comm->pZ,min_le_right->ri,not_le->uc,le_min->ud,add_lt_add_of_le_of_lt->ue,sub_le_iff_le_add'->xS,succ->AG,mul_le_mul_right->AI,lt_sub_of_add_lt->AJ,le_sub_of_add_le->AK,le_succ_of_le->Er,lt_of_not_le->GH,pow_succ->MG,min_self->MH,pred_lt->M',sub_lt->OP
open List renaming length_map->ae,getElem?_eq_some_iff->ag,mem_append_right->ai,mem_append_left->ak,mem_singleton->al,mem_of_getElem?->am,length_append->av,mem_append->aw,getElem?_map->ay,getElem?_eq_getElem->aA,map_append->aD,length_singleton->aG,mem_map->aJ,mem_iff_getElem?->aK,mem_cons->aL,mem_singleton_self->aN,take_length->aX,take_add_one->ba,map_cons->bc,mem_map_of_mem->bf,size_toArray->bo,nodup_cons->bp,lookup_cons->bq,getElem?_eq_none->bt,getElem?_take->bv,map_map->bC,mem_filter->bE,length_cons->bF,filter_cons->bG,getElem?_append_right->bI,getD_eq_getElem?_getD->bJ,sublist_cons_self->bM,getElem?_append_left->bN,take_subset->bU,all_eq_true->bV,length_set->bZ,length_take->ce,sublist_append_right->cy,mem_range->cE,filter_append->cN,range->cV,pairwise_map->cY,nodup_append->c8,pairwise_iff_getElem->da,getElem?_set_self->dc,append_nil->dh,any_eq_true->dj,append_assoc->dp,map_congr_left->dF,count_append->dO,not_mem_nil->dU,eq_nil_of_length_eq_zero->d7,foldl_cons->en,count_cons->eu,zip_cons_cons->eO,mem_filterMap->eP,count_nil->eQ,length_filter_le->eU,of_mem_zip->ff,length->fh,getElem?_cons_succ->fx,take_of_length_le->fK,filter_eq_nil_iff->fL,length_nil->fR,reverse_cons->gb,foldl_append->gc,nodup_nil->gm,mem_reverse->gw,drop_eq_getElem_cons->gD,getElem?_range->gG,filter_eq_self->gH,zip_map_right->gW,Nodup->gX,take_take->ik,take_sublist->il,replicate->im,getElem_mem->iL,filter_map->i9,length_reverse->jx,filterMap_cons->jy,prefix_append->jM,pairwise_cons->jN,exists_cons_of_ne_nil->jO,contains_cons->jP,filter_congr->kq,map_take->kA,filterMap_cons_some->kD,pairwise_singleton->lm,map->ln,getElem?_cons_zero->lp,length_eq_one_iff->lD,any_map->lE,range_succ->l_,find?_cons->ma,take_append_drop->mO,contains_iff_mem->mP,pairwise_append->m5,map_id->m6,getElem?_set_ne->m7,length_pos_iff->nF,length_flatMap->nG,filter_sublist->nH,map_nil->pG,length_range->pH,any_eq_false->pI,mem_flatMap->qr,isEmpty_iff->qs,forIn_cons->rn,dropLast_concat_getLast->rp,mem_or_eq_of_mem_set->uf,getElem?_eq_none_iff->ug,sum_cons->ut,any_cons->uu,all_cons->uv,set_set->v_,length_pos_of_mem->wc,mem_iff_getElem->yZ,lookup->y5,contains_eq_mem->y7,take_succ_cons->AL,replicate_succ->AM,map_eq_nil_iff->AN,filter_filter->AX,map_inj_left->DZ,getElem?_inj->D_,ext_getElem?->Ea,prefix_refl->Es,perm_middle->Et,map_fst_zip->Eu,head?_drop->GI,take_zero->HC,tail_drop->HD,drop_zero->HE,zip_map'->JD,map_set->JX,all_map->JY,foldl->Na,getD->OQ,Perm->OR
open Eq renaming trans->af,symm->dE
open PySem renaming wpAny_bind->ax,Shared->aE,wpAny_pure->aZ,compareOp->a_,wpAny->br,model->bL,wpAny_holding->bR,Comprehension->bS,wpAny_mono->cz,sizeLine_eq->cB,starEach->cO,foldedSetIterable->cP,stored->cW,mainGlobals->cX,wpAny_loadPart_at->db,cellsFrom->dg,valueAt->dn,NameKind->dM,Around->dY,wpAny_standAt->d_,wpAny_assignInOrder_more->ed,swappedStores->ef,backTo->eI,binaryOp->eM,intKind->eR,holding->eS,excClassObj->eX,wpAny_loadName_local->fq,standAt->ft,bootBuiltins->fu,assignEach->fA,Params->fB,eval->fF,Flow->fH,wpAny_isSubtype_exc->fJ,Builtin->fM,Heap->fT,codeAny_mono->f_,wpAny_execs_cons->gT,behindInMarks->ii,codeAny->ij,swapsWith->iE,wpAny_Call_NameR->ju,without->jA,keywordEach->jF,letOwnedTupleGo->jX,assign->jY,call_meetsIn->kj,pushCells->ku,getMethod->kx,wpAny_call->kR,wpAny_bindName->kT,wpAny_Name->kU,truthy->kW,sysModules->kX,recursionLimit->kY,callWith->kZ,slot_list_getitem->lB,wpAny_assignInOrder_none->l6,swapsWithSole->l7,slicePick->mU,checkBuiltinCall->mV,wpAny_typeOf->nu,wpAny_rule->nv,wpAny_pyNext_list_item->nw,World->nD,wpAny_pyNext_list_end->om,wpAny_notOrdered_dict->oo,constantsAlone->oZ,backToKw->o5,pairTrees_cons_walk->pU,foldedForSure->qo,comprehension->qp,assignInOrder->qq,merged->re,Result->rh,wpAny_pyIter_list->rI,wpAny_assign_Name->rJ,wpAny_Return_some->rK,relabel->rN,getAttr->rO,compTurn->rP,OsState->rS,ExcBaseFacts->rU,plainObj_wpAny_Assign_Attribute->sL,wpAny_execs_nil->vU,pushCells_keeps->vV,codeAny_of_tree->vW,codeAny_builtin->vX,spliced->v9,typeOf->xJ,typeLookup->xK,pyNext->xL,pyIter->xM,dictSetDefault->xO,checkBoundCall->xP,bindName->xQ,GenState->xX,wpAny_newList->AB,wpAny_getItem_list_slice->AC,plainId_quiet->AD,attributeBase->AE,wpAny_unpackItems_tuple->AU,execs->AV,Model->AW,CmpOp->AZ,name_of_addr->DR,denote->DX,Fin->DY,Keyword->Eb,wpAny_of_eq->GA,wpAny_field->GB,interactive->GC,bindArgs->GE,Drawn->GL,wpAny_setItem_pairs->Hq,wpAny_loadName_free->Hr,wpAny_assign_Tuple->Jn,wpAny_Constant_str->Jo,pairTrees_nil_walk->Jt,ks_wpAt_execs_cons->Ju,ks_wpAt_MethodCall->Jv,getattributeRaised->Jw,cameBackBy->Jy,call_meets->Jz,argsOk->JA,StoreFacts->JC,wpAny_truthy_bool->JL,wpAny_newObj_type->JM,unaryOp->JN,getMethod_builtin->JP,table->JU,wpAny_madeBy_exc->Mr,wpAny_getItem_of->Mt,wpAny_call_entry->Mu,opaqueClassAbove->Mv,ks_wpAt_Expr_any->Mw,entryFor_of_tree->Mx,codeAny_call_def->My,clausesOf->Mz,Arguments->MO,wpAny_specialOf->M6,wpAny_loadPart'->M7,wpAny_Dict_walk->M8,getAttrByItsOwn->M9,wpAny_newTuple->Oz,refuseLoop_ref->OC,rawInt->OD,newFunctionEnv->OE,letTemporaryGo->OF,foldedIterable->OH,Operator->ON,wpAny_release->Pj,wpAny_onRaise->Pk,rangeSize_one->Pl,setAttr->P6,newList->P7,newDict->P8,dictSet->Qb,callAny->Qe,ExcCallFacts->Qi,wpAny_Slice->Qn,wpAny_BinOp->Qo,unpackItems->Qp,bindSpecial->Qr
open PySem.Str renaming ofString->aF,ofString->dH,empty->GG
open Option.some renaming inj->aO,injEq->i8
open Option renaming map_eq_some_iff->aQ,isSome_iff_exists->bW,map_some->fb,isSome_some->gQ,map->ll,isSome_none->nE,isSome_map->oy,map_map->Ep
open PySem.Heap renaming get?_push_of_some->aW,lt_size->bz,get?_push_size->cf,SameBut->gx,get?_update_ne->gI,size_push->jQ,get?_push_at->kr,dictOf_iff->md,get?_update_self->mQ,get?_none_of_le->m8,get?_update_other->we,MadeExcOf->HH,ExtBut->ML
open Bool renaming and_eq_true_iff->bg,false_eq_true->bX,not_eq_true'->b9,and_eq_true->dk,false_ne_true->dK,not_eq_false'->oA,eq_false_iff->pJ,or_eq_true->rr,or_true->wg,or_eq_true_iff->AQ,and_comm->JE
open And renaming intro->bk
open PySem.Value renaming ref->bA,bool->gj,ctorIdx->km,ctorIdx->lu,isInt->JQ
open Int renaming natAbs->bB,natAbs_neg->bO,natCast_nonneg->bQ,ofNat_le->bY,ofNat_lt->cM,le_trans->cS,neg_neg->dN,lt_of_le_of_lt->eV,toNat_of_nonneg->fy,toNat_natCast->gd,sub_nonneg_of_le->gv,ofNat_inj->gU,neg_nonpos_of_nonneg->gV,sub_add_cancel->ie,lt_iff_le_and_ne->ny,not_lt->o6,add_sub_cancel->o7,neg_eq_zero->rT,neg_le_neg->uj,toNat_sub->vY,natAbs_eq_natAbs_iff->vZ,ofNat->wd,zero_sub->xU,le_of_lt->xV,fmod_nonneg_of_pos->xW,neg_le_of_neg_le->AO,add_le_add_right->AP,lt_of_lt_of_le->Ec,fmod_lt_of_pos->Ed,toNat->GK,natAbs_eq->JZ,ne_of_gt->MJ,le_of_eq->MK,neg_inj->Nc
open LawfulBEq renaming eq_of_beq->cG
open False renaming elim->cU
open PySem.Calls renaming Name_function_global->dD,loadGlobal_builtin->iz,loadGlobal_global->iO,evalArgs_plain->OI
open Pure renaming pure->dG
open Classical renaming byContradiction->dP,not_not->wf,em->Ef,typeDecidableEq->Ql
open PySem.EqBoolInt renaming of_rcne->eT,of_rc->pF
open PySem.NameKind renaming free->fc,cell->fG
open PySem.Code renaming compLoop->fj,compStart->go,builtin->jB,quiet_builtin->AY
open PySem.W renaming cellsFrom_some->fN,hideAll->fZ,findIn->gu,methodObj->jv,hideAll_get->lC,nsIn->oq,handedIn->oY,of_hideAll->rb,mg_none_of->rc,envX->rf,codeRec_of->rg,getL->t_,ksEnv->xN,takerIn->DQ,looks_findIn->DS,keepIn->DT,instObj->DU,hideAll_none->DV,callWith_of->GD,dictOf->Jx,mg_of->JO,fresh_of_stays->OG,codeIn->OJ,hideAll_size->P9,get_own->P_,fnOf->Qa,alongIn->Qf,method_inst->Qq,Looks->Qv
open PySem.Obj renaming mk->fO,data_mapDictKeys->AF,mapSeq->OO
open Ne renaming symm->gk
open Array renaming getElem?_eq_getElem->gy,toArray_toList->iP,getElem?_toList->mh
open PySem.F renaming slot_list_getattribute->iA,slot_dict_pop->lw,slot_dict_get->lx,slot_dict_setdefault->pV,ks_slot_super_ga->qa,slot_dict_getitem->rk,slot_list_extend->rQ,slot_dict_update->rR,args_dict_pop_3->sM,entry_dict_pop->ua,entry_dict_get->ub,slot_list_pop->uq
open PySem.Heap.DictOf renaming new->iB
open PySem.BindsTo renaming of_eq->iF
open Nat.succ renaming inj->iR
open PySem.ScopeKind renaming function->iW
open Iff renaming rfl->kE
open ForInStep renaming yield->kF
open PySem.Around renaming frames_deeper->mR,under_of_weight->ux,under_plainId->wh
open PySem.SeqAt.RcNeAt renaming lists->mZ,none_bool->Ek,lists_lengths->Em,bool_bool->En
open PySem.Data renaming fields->m9,dict->nA,cls->y9,seq->HI,cell->OT
open PySem.ClassData renaming mk->nB
open PyProof.Rows renaming News->ot,spliced_none->rL,spliced_more->rM,MethodCall_->ur,Below->A8,envOfC->DW,Assign_Tuple_swapped->GM,seqObj->Jr,Subscript_->JB,callWith_type->M_,tail_any->OB,KskOut->OS,Attribute_any_->OU,call_abs_int->Qd,Assign_Tuple->Qm
open PySem.Builtin.Dict renaming keyAndDefault->oz,updateFrom->qb,selfAndRest->Nh,addKeywords->Ni
open PySem.Heap.UpToSlots renaming of_keeps->o8
open List.Perm renaming swap->p_,refl->Qh
open List.cons renaming inj->rj,injEq->y8
open PySem.PyData renaming keyHash->rm
open PySem.Heap.IsSliceOf renaming new->rq
open List.Sublist renaming refl->uh,map->uw,append->Nb
open PySem.IsL renaming update->xR
open PySem.W.Looks renaming «at»->xT
open Function renaming comp->Ee,comp_def->Qy
open Prod.mk renaming injEq->Eo
open PySem.W.KtsTurn renaming refl->GJ
open PySem.SeqAt.RcAt renaming tuples->Hs,lists_lengths->Hu,lists->Hv
open PySem.SeqAt.EqAt renaming same->Hw,of_refs->Hx,none_bool->Hy,int_int->Hz,bool_bool->HA
open Prod renaming fst->HB
open PySem.IsRange renaming new->HG
open PySem.Bind renaming checkArgs->HJ
open PySem.W.RowW renaming records->JT
open PySem.MeetsSeq renaming list_pop_last->JV
open PySem.AutoSeq1 renaming list_extend_list_list_0->JW,sub_tuple_tuple->QA
open PySem.IsiPair renaming tuple_tuple->MA,tuple_bool->MB,bool_tuple->MC,bool_bool->MD,NoneType_bool->ME
open Neg renaming neg->MF
open List.Pairwise renaming nil->MI
open PySem.Builtin.Range renaming small->MM,rangeSize->MN
open PySem.Heap.SameBut renaming update->Nd,refl->Nf
open PySem.Builtin.List renaming listTooLong->Ng
open ToString renaming toString->OA
open PySem.SeqAt renaming notIn_listAt->OK,in_listAt->OL,EqAt->OM
open PySem.W.XL renaming keeps->Pn
open List.Nodup renaming sublist->Po
open PySem.W.Hook renaming val->Pp,obs->Pq
open Inhabited renaming default->Qc
open PySem.PassesOwn renaming leaving->Qg
open PySem.DictEntry renaming refKey->Qj,mk->Qk
open PySem.Manifest renaming signature?->Qs,canonical->Qu
open PySem.IntMulOk renaming of_left->Qw
open PySem.Heap.Ns1 renaming of_empty->Qx
open PySem.FuncData renaming mk->Qz
open PySem PySem.W PyProof.Rows PySem.Calls
set_option Elab.async false
set_option linter.unusedVariables false
set_option maxRecDepth 1000000
set_option maxHeartbeats 8000000
namespace Mine
@[elab_as_elim] theorem ah{α:Sort u}{P:α->Prop}{a b:α}(h:a=b)(e:P b):P a:=h▸e
@[elab_as_elim] theorem dI{α:Sort u}{P:α->Prop}{a b:α}(h:b=a)(e:P b):P a:=h▸e
@[elab_as_elim] theorem io{P:Prop->Prop}(h:a↔b)(e:P b):P a:=propext h▸e
theorem Bi{α:Sort u}{a b c:α}(h:b=a)(e:b=c):a=c:=h▸e
@[elab_as_elim] theorem eH{α:Sort u}{P:α->Prop}[i:Decidable c]{a b:α}(h1:c->P a)(h2:¬c->P b):P (if c then a else b):=by
 by_cases h:c
 ·rw [if_pos h];exact h1 h
 ·rw [if_neg h];exact h2 h
theorem Fa{α:Sort u}[Decidable c]{a b:α}(h:¬c->b=a):(if c then a else b)=a:=by
 by_cases q:c
 ·exact if_pos q
 ·exact (if_neg q).trans (h q)
theorem bw{α:Type u}{x:α}(h:none=some x):False:=nomatch h
theorem gY{α:Type u}{x:α}(h:some x=none):False:=nomatch h
theorem jD(h:false=true):False:=nomatch h
theorem ze(h:true=false):False:=nomatch h
theorem cI{α:Type u}(f:α->Nat){a b:α}(h:a=b)(n:Nat.beq (f a) (f b)=false):False:=by subst h;rw [Nat.beq_refl] at n;cases n
theorem sI{α:Type u}{a b:α}(h:some a=some b):b=a:=(aO h).symm
theorem xa{a b c:Nat}(h:a=b)(k:b<=c):a<=c:=h▸k
theorem xb{a b c:Nat}(h:b=a)(k:b<=c):a<=c:=h▸k
theorem xc{a b c:Nat}(h:c=b)(k:a<=b):a<=c:=h▸k
theorem xd{a b c:Nat}(h:b=c)(k:a<=b):a<=c:=h▸k
theorem ya{a b c:Nat}(h:a=b)(k:b<c):a<c:=h▸k
theorem yb{a b c:Nat}(h:b=a)(k:b<c):a<c:=h▸k
theorem yc{a b c:Nat}(h:c=b)(k:a<b):a<c:=h▸k
theorem NQ{n:Nat}(h:x.natAbs<=n):-(n:Int)<=x/\x<=n:=(JZ x).elim (λ e=>e▸⟨cS (gV (bQ _)) (bQ _),bY.mpr h⟩) λ e=>e▸⟨uj (bY.mpr h),cS (gV (bQ _)) (bQ _)⟩
theorem nz{x:Int}(h:1<=x.natAbs/\x.natAbs<=N):x≠0:=λ e=>dq h.1 (congrArg bB e)
theorem Pu(h:1<=x.natAbs/\x.natAbs<=N):-x≠0:=λ e=>nz h (rT.mp e)
theorem Pv(h:-1000<=x/\x<=1000):-1000<=-x/\-x<=1000:=⟨uj h.2,AO h.1⟩
theorem sf(h:b<n-i):n-(i+1)<n-i:=M' (dq (au (bb b) h))
theorem pp(h:1<=i)(k:i<=n):i-1<n:=aq (M' (dq h)) k
theorem pc{i:Nat}(h:1<=i):(i:Int)-1=((i-1:Nat):Int):=(Int.ofNat_sub h).symm
theorem G6{a b c d k:Nat}(h:a+c<=b+d)(q:d<=c+k):a<=b+k:=Nat.le_of_add_le_add_right (ac h (ac (aV q b) (aC ((congrArg (b+·) (pZ c k)).trans (iS b k c).symm))))
theorem O7(h:a+k*(b+1)<c)(q:j<=k):a+j+k*b<c:=au (ac (aC (dL a j _)) (ac (aV q _) (aC (iS a (k*b) k)))) h
theorem NP{b:Int}(h:a<=b):a-1<b:=Int.sub_one_lt_of_le h
theorem PK(h0:c+d<=10000000)(h1:a=c)(h2:b=d):¬(a+b>16777216):=fp.mpr (ac (h1▸h2▸h0) (by decide))
theorem PJ(h0:c+d<=10000000)(h1:a=c)(h2:b=d):a+b<=16777216+1:=ac (h1▸h2▸h0) (by decide)
theorem O8(h0:c+d<=10000000)(h1:a=c)(h2:b=d):a+b<=16777216:=ac (h1▸h2▸h0) (by decide)
theorem PI(h0:c+d<=1000000)(h1:a=c)(h2:b=d):a+b<=16777216:=ac (h1▸h2▸h0) (by decide)
theorem IA(h0:a+3*(b+1)<c):a+1+3*b<c:=O7 h0 (by decide)
theorem Iz(h0:a+10*(b+1)<c):a+3+10*b<c:=O7 h0 (by decide)
theorem Oe(h0:b<=1):a+b+3*c<=a+3*(c+1):=ac (aC (dL a b _)) (ac (aV (ac h0 (by decide)) _) (aC (iS a (3*c) 3)))
theorem Od(h0:b<=5):a+b+10*c<=a+10*(c+1):=ac (aC (dL a b _)) (ac (aV (ac h0 (by decide)) _) (aC (iS a (10*c) 10)))
theorem Oc(h0:a<=b+1)(h1:b<=900):a<=1000:=ac h0 (ac (cw h1) (by decide))
theorem Ob(h0:GK a<b):a<((b:Nat):Int):=eV (Int.self_le_toNat a) (cM.mpr h0)
theorem Oa:a+((b+1:Nat):Int)=a+((b:Nat):Int)+1:=(Int.add_assoc a b 1).symm
theorem N_:((a:Nat):Int)-((b+1:Nat):Int)=((a:Nat):Int)-((b:Nat):Int)-1:=(Int.sub_sub a b 1).symm
theorem N9:a+((0:Nat):Int)=a:=Int.add_zero a
theorem N8:((a:Nat):Int)-((0:Nat):Int)=((a:Nat):Int):=Int.sub_zero a
theorem N7:2*a=a*2:=Nat.mul_comm 2 a
theorem N6{a b c d e f:Nat}(h0:b<2)(h1:c=2*min d e)(h2:a=c+min b f)(h3:e<=1000):a<=3000:=ac (xa h2 (di (xa h1 (eF 2 (ac (ri d e) h3))) (ac (jw b f) (aP h0)))) (by decide)
theorem N5(h0:b<=c+d/\a<=e+d)(h1:d<=10000)(h2:e<=10000):1+a<=1000000:=ac (aV (ac h0.2 (di h2 h1)) 1) (by decide)
theorem N4(h0:b<=a)(h1:¬(a=b)):(0:Nat)<a:=au (bb b) (dy h0 λ e=>h1 e.symm)
theorem N0(h0:b<c)(h1:a<=b)(h2:¬(b=a)):a<=b-1/\b-1<c:=⟨Nat.le_sub_one_of_lt (dy h1 (λ e=>h2 e.symm)),au (l9 b 1) h0⟩
theorem NZ{a b:Nat}(h0:a<=b)(h1:¬(b=a)):a<b:=dy h0 λ e=>h1 e.symm
theorem NY(h0:b<50)(h1:a<=1+b):a<=1000000:=ac h1 (ac (aV (aP h0) 1) (by decide))
theorem NX(h0:c<50)(h1:b<=0+d)(h2:a<=1+1000*c)(h3:d<=1000):a+b<=1000000:=ac (di (ac h2 (aV (eF 1000 (aP h0)) 1)) (ac h1 (aV h3 0))) (by decide)
theorem NW(h0:c<=0+d)(h1:a<=b+c)(h2:d<=1000):a<=b+1000:=ac h1 (aV (ac h0 (aV h2 0)) b)
theorem NV(h0:(0:Int)<=b/\b<=1000)(h1:a=b\/a=-b):(-1000:Int)<=a/\a<=1000:=h1.elim (λ e=>e▸⟨cS (by decide) h0.1,h0.2⟩) (λ e=>e▸⟨uj h0.2,cS (gV h0.1) (by decide)⟩)
theorem NU(h0:a<=900):(-1000000:Int)<=((a:Nat):Int)+1/\((a:Nat):Int)+1<=1000000:=⟨cS (by decide) (bQ (a+1)),bY.mpr (ac (cw h0) (by decide))⟩
theorem NT{a:Int}{b:Nat}(h0:(1:Nat)<=bB a/\bB a<=b)(h1:b<=5):(-1000:Int)<=a/\a<=1000:=NQ (ac h0.2 (ac h1 (by decide)))
theorem LF(h0:(-1000:Int)<=a/\a<=1000):(0:Int)<=((bB a:Nat):Int)/\((bB a:Nat):Int)<=1000:=⟨bQ _,(JZ a).elim (λ e=>cS (MK e.symm) h0.2) λ e=>cS (MK (Int.eq_neg_comm.mp e)) (AO h0.1)⟩
theorem LD(h0:d=b-a)(h1:a<=b-c)(h2:¬(((d:Nat):Int)>((c:Nat):Int))):a=b-c:=bx h1 (xS.mpr (Nat.sub_le_iff_le_add.mp (h0▸bY.mp (o6.mp h2))))
theorem LB(h0:b<2)(h1:a<=90000+b):a<100000:=au (ac h1 (aV (aP h0) 90000)) (by decide)
theorem LA:((a+1:Nat):Int)-1=((a:Nat):Int):=o7 a 1
theorem Lz(h0:b<=40000)(h1:a<=40001):a+1+(b-(c+1))<=100000:=ac (di (cw h1) (ac (l9 ..) h0)) (by decide)
theorem Ly(h0:a<b):a+1<=min (a+1) b+c:=ac (ud.mpr ⟨az _,h0⟩) (aB ..)
theorem Lx{a b c d e:Nat}(h0:a=d)(h1:c=e)(h2:d<=b+e):a<=b+c:=xa h0 (h1▸h2)
theorem Lu(h0:c<a+2)(h1:b<c)(h2:a<=b):a=b:=bx h2 (b_ (aq h1 (b_ h0)))
theorem Ls(h0:c<b+2)(h1:a<c)(h2:a>=b):a=b:=bx (b_ (aq h1 (b_ h0))) h2
theorem Lr{a b:Int}(h0:-a=-b)(h1:bB a≠bB b):False:=h1 (congrArg bB (Nc.mp h0))
theorem Lq(h0:a+1*(e+1)<=c)(h1:b<=e):a+b<c+d:=aq (gK (au h1 ((Nat.one_mul (e+1)).symm▸bn e)) a) (ac h0 (aB c d))
theorem Lp{a b c d e:Nat}(h0:a+b<=c+d)(h1:e<16)(h2:d<=b+e)(h3:c<=30000):a<=40000:=ac (G6 h0 h2) (ac (di h3 (aP h1)) (by decide))
theorem Cu{a b c d e:Nat}(h0:a+b<=c+d)(h1:e<16)(h2:d<=b+e)(h3:c<=30000):a<90000:=au (G6 h0 h2) (aq (ue h3 h1) (by decide))
theorem Lo{a b c d e:Nat}(h0:a+b<=c+d)(h1:e<16)(h2:d<=b+e)(h3:c<=30000):a<=80000:=ac (G6 h0 h2) (ac (di h3 (aP h1)) (by decide))
theorem Ha(h0:b<=5)(h1:a<=b):a<90000:=au (ac h1 h0) (by decide)
theorem Ln{a b c d:Nat}(h0:c<16)(h1:a=d)(h2:d<=b+c):a+1<=b+16:=bK (ya h1 (au h2 (gK h0 b)))
theorem Lm(h0:a+b<=c+e)(h1:d=e):a+b<=c+(d+1):=ac h0 (aV (ac (aC h1.symm) (dR d)) c)
theorem Ll(h0:a+b<=c+e)(h1:d=e):a+1+b<=c+(d+1):=ac (aC (fP a b)) (cw (ac h0 (aV (aC h1.symm) c)))
theorem Lj(h0:a+2<=b):min a b=a:=dz (ac (aB a 2) h0)
theorem Li{a b c:Nat}(h0:a<b):a<b+c:=aq h0 (aB b c)
theorem Lh{a b c d:Nat}(h0:b=c+1)(h1:c=d)(h2:a<=d):a<=b:=ac h2 (xb h1 (xc h0 (dR c)))
theorem Lf{a b c d e:Nat}(h0:c<16)(h1:a=d+1)(h2:d=e)(h3:e<=b+c):a<=b+16:=xa (h1.trans (congrArg AG h2)) (ac (cw h3) (aV h0 b))
theorem Le(h0:e+b<=c+f)(h1:d=g+1)(h2:g=f)(h3:i=e)(h4:a<=i+1):a+b<=c+d:=ac (b8 (h3▸h4) b) (ac (aC (fP e b)) (ac (cw h0) (aC (congrArg (c+·) (h1.trans (congrArg AG h2)).symm))))
theorem Ld(h0:a+b<=c+e)(h1:d=f+1)(h2:f=e):a+1+b<=c+d:=ac (aC (fP a b)) (ac (cw h0) (aC (congrArg (c+·) (h1.trans (congrArg AG h2)).symm)))
theorem Lb{a b c d e:Nat}(h0:a<=c+d):min a b<=c+(d+e):=ac (jw a b) (ac h0 (aV (aB d e) c))
theorem La{a b c d e f g:Nat}(h0:d<c)(h1:a=e+1)(h2:e=f)(h3:f<=b+g)(h4:g<=d):a<=b+c:=xa (h1.trans (congrArg AG h2)) (ac (cw (ac h3 (aV h4 b))) (aV h0 b))
theorem K_{a b c d:Nat}(h0:c<16)(h1:a=d)(h2:d<=b+c):a<=b+16:=xa h1 (ac h2 (aV (aP h0) b))
theorem G'{a b c d e:Nat}(h0:a+b<=c+e)(h1:d=e):a+b<=c+d:=ac h0 (aV (aC h1.symm) c)
theorem K9{a b c d e f:Nat}(h0:a=d)(h1:d<=b+e)(h2:e<=f)(h3:f<=c):a<=b+c:=xa h0 (ac h1 (aV (ac h2 h3) b))
theorem G_{a b c d:Nat}(h0:c<16)(h1:a=d)(h2:d<=b+c):a<b+16:=ya h1 (au h2 (gK h0 b))
theorem K8(h0:a<=b+c)(h1:b<=1000)(h2:c<=5):a<90000:=au (ac h0 (di h1 h2)) (by decide)
theorem K7(h0:b<=5)(h1:a<=b):a<=50:=ac h1 (ac h0 (by decide))
theorem K6(h0:b<=5)(h1:a<=b):a<=1000:=ac h1 (ac h0 (by decide))
theorem KZ{a b c d e:Nat}(h0:a+c<=b+d)(h1:e<16)(h2:d<=c+e):a<=b+16:=ac (G6 h0 h2) (aV (aP h1) b)
theorem KY{a b c d e:Nat}(h0:a+c<=b+d)(h1:e<16)(h2:d<=c+e):a<=b+17:=ac (G6 h0 h2) (aV (ac (aP h1) (by decide)) b)
theorem KV{a b c d e:Nat}(h0:a+c<=b+d)(h1:e<16)(h2:d<=c+e):a+1<=b+17:=cw (ac (G6 h0 h2) (aV (aP h1) b))
theorem KU{a b:Nat}(h0:a<=b):a<=min a b:=ud.mpr ⟨az a,h0⟩
theorem KT(h0:b≠-a):a≠-b:=λ e=>h0 ((dN b).symm.trans (congrArg MF e).symm)
theorem KS{a b:Int}(h0:bB a=bB b)(h1:b≠-a)(h2:a≠b):False:=(vZ.mp h0).elim h2 (λ e=>h1 ((dN b).symm.trans (congrArg MF e).symm))
theorem G9{a:Int}{b:Nat}(h0:(1:Nat)<=bB a/\bB a<=b)(h1:b<=60):(-1000:Int)<=a/\a<=1000:=NQ (ac h0.2 (ac h1 (by decide)))
theorem KR(h0:a<b):(1:Int)<=((a:Nat):Int)+1/\((a:Nat):Int)+1<=((b:Nat):Int):=⟨bY.mpr (aj 1 a),bY.mpr h0⟩
theorem KQ{b:Nat}(h0:(1:Int)<=a/\a<=((b:Nat):Int)):GK (a-1)<b:=(Int.toNat_lt (gv h0.1)).mpr (NP h0.2)
theorem KP(h0:(1:Int)<=a/\a<=((b:Nat):Int)):((GK (a-1):Nat):Int)+1=a:=(congrArg (·+1) (fy (gv h0.1))).trans (ie a 1)
theorem Ct{a b:Int}(h0:((bB a:Nat):Int)-1=((bB b:Nat):Int)-1):bB a=bB b:=gU.mp ((ie _ 1).symm.trans ((congrArg (·+1) h0).trans (ie _ 1)))
theorem Cq{a:Int}{b:Nat}(h0:(1:Nat)<=bB a/\bB a<=b):(0:Int)<=((bB a:Nat):Int)-1/\((bB a:Nat):Int)-1<((b:Nat):Int):=⟨gv (bY.mpr h0.1),NP (bY.mpr h0.2)⟩
theorem KO(h0:a<c)(h1:b=c):a<2+(b-2):=aq (h1▸h0) (xS.mp (az (b-2)))
theorem KN(h0:(2:Nat)<=a)(h1:a<2+(b-2)):a<b:=GH λ q=>fp.mpr (Nat.sub_le_sub_right q 2) (Nat.sub_lt_left_of_lt_add h0 h1)
theorem KM(h0:-a=b):a=-b:=(dN a).symm.trans (congrArg MF h0)
theorem G8{a:Int}{b:Nat}(h0:(1:Nat)<=bB a/\bB a<=b)(h1:b<=900):(-1000:Int)<=a/\a<=1000:=NQ (ac h0.2 (ac h1 (by decide)))
theorem KL(h0:b<=900)(h1:a<=b):a<90000:=au (ac h1 h0) (by decide)
theorem KJ{a b c d:Nat}(h0:a<b+1/\c=d)(h1:¬(b=a)):a<b:=dy (b_ h0.1) (λ e=>h1 e.symm)
theorem G7(h0:a<b+1)(h1:¬(b=a)):a<b:=dy (b_ h0) λ e=>h1 e.symm
theorem KI{a b:Int}(h0:a-1=b-1):a=b:=(ie a 1).symm.trans ((congrArg (·+1) h0).trans (ie b 1))
theorem KG{a c:Int}{b:Nat}(h0:((bB c:Nat):Int)=a)(h1:(1:Nat)<=bB c/\bB c<=b):(0:Int)<=a-1/\a-1<((b:Nat):Int):=h0▸⟨gv (bY.mpr h1.1),NP (bY.mpr h1.2)⟩
theorem KF{a b c d:Nat}(h0:b<c)(h1:c=d)(h2:b=d):a+1=1:=(bu h0 (h2.trans h1.symm)).elim
theorem KE{a b c d:Nat}(h0:c+1<=d)(h1:d=0):a<b:=absurd (h1▸h0) (Nat.not_succ_le_zero c)
theorem KD{a b c d:Nat}(h0:c+1<=d)(h1:d<=c):a<b:=absurd h0 (uc.mpr (eh h1))
theorem KC{a b c d e:Nat}(h0:c<d)(h1:e=d)(h2:e<=c):a<b:=absurd h0 (fp.mpr (h1▸h2))
theorem KB{a b c d e:Nat}(h0:c<d)(h1:e=d)(h2:e<=c):a<=b:=absurd h0 (fp.mpr (h1▸h2))
theorem KA(h0:a≠0):-a≠0:=λ e=>h0 (rT.mp e)
theorem Kz(h0:(0:Int)<=a/\a<((b+1:Nat):Int))(h1:a≠((b:Nat):Int)):(0:Int)<=a/\a<((b:Nat):Int):=⟨h0.1,ny.mpr ⟨Int.le_of_lt_add_one h0.2,h1⟩⟩
theorem Ky(h0:(-1000:Int)<=a/\a<=1000):(0:Int)<=a+1000/\a+1000<((2001:Nat):Int):=⟨AP h0.1 1000,eV (AP h0.2 1000) (by decide)⟩
theorem Kx{a b:Int}(h0:a+1000=b+1000):a=b:=(o7 a 1000).symm.trans ((congrArg (·-1000) h0).trans (o7 b 1000))
theorem Ku(h0:a<b)(h1:b<=900):(0:Int)<=((a:Nat):Int)+1/\((a:Nat):Int)+1<=1000:=⟨bQ (a+1),bY.mpr (ac h0 (ac h1 (by decide)))⟩
theorem Kt(h0:f<=b+1/\g<=e+1)(h1:a<=f+c)(h2:d<=g+c):a<=b+(c+1)/\d<=e+(c+1):=⟨ac h1 (ac (b8 h0.1 c) (aC (fP b c))),ac h2 (ac (b8 h0.2 c) (aC (fP e c)))⟩
theorem Ks(h0:d<=b+1)(h1:a<=d+c):a<=b+(c+1):=ac h1 (ac (b8 h0 c) (aC (fP b c)))
theorem Kr(h0:c=1000)(h1:a=302)(h2:b<=25):a+3*b<c:=au (di (aC h1) (eF 3 h2)) (h0▸by decide)
theorem Kq(h0:c=9900)(h1:a<=100)(h2:b<=25):a+10*b<c:=au (di h1 (eF 10 h2)) (h0▸by decide)
theorem JI(h:i>=n)(k:i-n=0):i=n:=bx (Nat.le_of_sub_eq_zero k) h
theorem aU{C:Prop}(h:p0/\p1)(k:p0->p1->C):C:=by
 obtain ⟨h0,h1⟩:=h;exact k h0 h1
theorem cu{C:Prop}(h:p0/\p1/\p2)(k:p0->p1->p2->C):C:=by
 obtain ⟨h0,h1,h2⟩:=h;exact k h0 h1 h2
theorem du(h0:p0)(h1:p1)(h2:p2):p0/\p1/\p2:=⟨h0,h1,h2⟩
theorem fD{C:Prop}(h:p0/\p1/\p2/\p3)(k:p0->p1->p2->p3->C):C:=by
 obtain ⟨h0,h1,h2,h3⟩:=h;exact k h0 h1 h2 h3
theorem gN(h0:p0)(h1:p1)(h2:p2)(h3:p3):p0/\p1/\p2/\p3:=⟨h0,h1,h2,h3⟩
theorem sx{C:Prop}(h:p0/\p1/\p2/\p3/\p4)(k:p0->p1->p2->p3->p4->C):C:=by
 obtain ⟨h0,h1,h2,h3,h4⟩:=h;exact k h0 h1 h2 h3 h4
theorem pt(h0:p0)(h1:p1)(h2:p2)(h3:p3)(h4:p4):p0/\p1/\p2/\p3/\p4:=⟨h0,h1,h2,h3,h4⟩
theorem sw{C:Prop}(h:p0/\p1/\p2/\p3/\p4/\p5/\p6)(k:p0->p1->p2->p3->p4->p5->p6->C):C:=by
 obtain ⟨h0,h1,h2,h3,h4,h5,h6⟩:=h;exact k h0 h1 h2 h3 h4 h5 h6
theorem LN(h0:p0)(h1:p1)(h2:p2)(h3:p3)(h4:p4)(h5:p5)(h6:p6):p0/\p1/\p2/\p3/\p4/\p5/\p6:=⟨h0,h1,h2,h3,h4,h5,h6⟩
theorem CE{C:Prop}(h:p0/\p1/\p2/\p3/\p4/\p5/\p6/\p7/\p8)(k:p0->p1->p2->p3->p4->p5->p6->p7->p8->C):C:=by
 obtain ⟨h0,h1,h2,h3,h4,h5,h6,h7,h8⟩:=h;exact k h0 h1 h2 h3 h4 h5 h6 h7 h8
theorem Hd(h0:p0)(h1:p1)(h2:p2)(h3:p3)(h4:p4)(h5:p5)(h6:p6)(h7:p7)(h8:p8):p0/\p1/\p2/\p3/\p4/\p5/\p6/\p7/\p8:=⟨h0,h1,h2,h3,h4,h5,h6,h7,h8⟩
theorem IL{C:Prop}(h:p0/\p1/\p2/\p3/\p4/\p5/\p6/\p7/\p8/\p9/\Ul/\Uk)(k:p0->p1->p2->p3->p4->p5->p6->p7->p8->p9->Ul->Uk->C):C:=by
 obtain ⟨h0,h1,h2,h3,h4,h5,h6,h7,h8,h9,UH,UG⟩:=h;exact k h0 h1 h2 h3 h4 h5 h6 h7 h8 h9 UH UG
theorem CB(h0:p0)(h1:p1)(h2:p2)(h3:p3)(h4:p4)(h5:p5)(h6:p6)(h7:p7)(h8:p8)(h9:p9)(UH:Ul)(UG:Uk):p0/\p1/\p2/\p3/\p4/\p5/\p6/\p7/\p8/\p9/\Ul/\Uk:=⟨h0,h1,h2,h3,h4,h5,h6,h7,h8,h9,UH,UG⟩
theorem aS{QR:Type}{p0:QR->Prop}{C:Prop}(h:∃x0,p0 x0)(k:∀x0,p0 x0->C):C:=by
 obtain ⟨x0,h0⟩:=h;exact k x0 h0
theorem aM{QR:Type}{p0 p1:QR->Prop}{C:Prop}(h:∃x0,p0 x0/\p1 x0)(k:∀x0,p0 x0->p1 x0->C):C:=by
 obtain ⟨x0,h0,h1⟩:=h;exact k x0 h0 h1
theorem cC{QR:Type}{p0 p1:QR->Prop}(x0:QR)(h0:p0 x0)(h1:p1 x0):∃x0,p0 x0/\p1 x0:=⟨x0,h0,h1⟩
theorem c9{QR:Type}{p0 p1 p2:QR->Prop}{C:Prop}(h:∃x0,p0 x0/\p1 x0/\p2 x0)(k:∀x0,p0 x0->p1 x0->p2 x0->C):C:=by
 obtain ⟨x0,h0,h1,h2⟩:=h;exact k x0 h0 h1 h2
theorem fW{QR:Type}{p0 p1 p2:QR->Prop}(x0:QR)(h0:p0 x0)(h1:p1 x0)(h2:p2 x0):∃x0,p0 x0/\p1 x0/\p2 x0:=⟨x0,h0,h1,h2⟩
theorem nW{QR:Type}{p0 p1 p2 p3:QR->Prop}{C:Prop}(h:∃x0,p0 x0/\p1 x0/\p2 x0/\p3 x0)(k:∀x0,p0 x0->p1 x0->p2 x0->p3 x0->C):C:=by
 obtain ⟨x0,h0,h1,h2,h3⟩:=h;exact k x0 h0 h1 h2 h3
theorem pq{QR:Type}{p0 p1 p2 p3:QR->Prop}(x0:QR)(h0:p0 x0)(h1:p1 x0)(h2:p2 x0)(h3:p3 x0):∃x0,p0 x0/\p1 x0/\p2 x0/\p3 x0:=⟨x0,h0,h1,h2,h3⟩
theorem LP{QR:Type}{p0 p1 p2 p3 p4 p5 p6:QR->Prop}{C:Prop}(h:∃x0,p0 x0/\p1 x0/\p2 x0/\p3 x0/\p4 x0/\p5 x0/\p6 x0)(k:∀x0,p0 x0->p1 x0->p2 x0->p3 x0->p4 x0->p5 x0->p6 x0->C):C:=by
 obtain ⟨x0,h0,h1,h2,h3,h4,h5,h6⟩:=h;exact k x0 h0 h1 h2 h3 h4 h5 h6
theorem LM{QR:Type}{p0 p1 p2 p3 p4 p5 p6:QR->Prop}(x0:QR)(h0:p0 x0)(h1:p1 x0)(h2:p2 x0)(h3:p3 x0)(h4:p4 x0)(h5:p5 x0)(h6:p6 x0):∃x0,p0 x0/\p1 x0/\p2 x0/\p3 x0/\p4 x0/\p5 x0/\p6 x0:=⟨x0,h0,h1,h2,h3,h4,h5,h6⟩
theorem II{QR:Type}{p0 p1 p2 p3 p4 p5 p6 p7 p8 p9:QR->Prop}(x0:QR)(h0:p0 x0)(h1:p1 x0)(h2:p2 x0)(h3:p3 x0)(h4:p4 x0)(h5:p5 x0)(h6:p6 x0)(h7:p7 x0)(h8:p8 x0)(h9:p9 x0):∃x0,p0 x0/\p1 x0/\p2 x0/\p3 x0/\p4 x0/\p5 x0/\p6 x0/\p7 x0/\p8 x0/\p9 x0:=⟨x0,h0,h1,h2,h3,h4,h5,h6,h7,h8,h9⟩
theorem IK{QR:Type}{p0 p1 p2 p3 p4 p5 p6 p7 p8 p9 Ul Uk:QR->Prop}{C:Prop}(h:∃x0,p0 x0/\p1 x0/\p2 x0/\p3 x0/\p4 x0/\p5 x0/\p6 x0/\p7 x0/\p8 x0/\p9 x0/\Ul x0/\Uk x0)(k:∀x0,p0 x0->p1 x0->p2 x0->p3 x0->p4 x0->p5 x0->p6 x0->p7 x0->p8 x0->p9 x0->Ul x0->Uk x0->C):C:=by
 obtain ⟨x0,h0,h1,h2,h3,h4,h5,h6,h7,h8,h9,UH,UG⟩:=h;exact k x0 h0 h1 h2 h3 h4 h5 h6 h7 h8 h9 UH UG
theorem fg{QR QZ:Type}{p0:QR->QZ->Prop}{C:Prop}(h:∃x0 x1,p0 x0 x1)(k:∀x0 x1,p0 x0 x1->C):C:=by
 obtain ⟨x0,x1,h0⟩:=h;exact k x0 x1 h0
theorem yD{QR QZ:Type}{p0:QR->QZ->Prop}(x0:QR)(x1:QZ)(h0:p0 x0 x1):∃x0 x1,p0 x0 x1:=⟨x0,x1,h0⟩
theorem ck{QR QZ:Type}{p0 p1:QR->QZ->Prop}{C:Prop}(h:∃x0 x1,p0 x0 x1/\p1 x0 x1)(k:∀x0 x1,p0 x0 x1->p1 x0 x1->C):C:=by
 obtain ⟨x0,x1,h0,h1⟩:=h;exact k x0 x1 h0 h1
theorem iI{QR QZ:Type}{p0 p1:QR->QZ->Prop}(x0:QR)(x1:QZ)(h0:p0 x0 x1)(h1:p1 x0 x1):∃x0 x1,p0 x0 x1/\p1 x0 x1:=⟨x0,x1,h0,h1⟩
theorem jl{QR QZ:Type}{p0 p1 p2:QR->QZ->Prop}{C:Prop}(h:∃x0 x1,p0 x0 x1/\p1 x0 x1/\p2 x0 x1)(k:∀x0 x1,p0 x0 x1->p1 x0 x1->p2 x0 x1->C):C:=by
 obtain ⟨x0,x1,h0,h1,h2⟩:=h;exact k x0 x1 h0 h1 h2
theorem lc{QR QZ:Type}{p0 p1 p2:QR->QZ->Prop}(x0:QR)(x1:QZ)(h0:p0 x0 x1)(h1:p1 x0 x1)(h2:p2 x0 x1):∃x0 x1,p0 x0 x1/\p1 x0 x1/\p2 x0 x1:=⟨x0,x1,h0,h1,h2⟩
theorem jk{QR QZ:Type}{p0 p1 p2 p3:QR->QZ->Prop}{C:Prop}(h:∃x0 x1,p0 x0 x1/\p1 x0 x1/\p2 x0 x1/\p3 x0 x1)(k:∀x0 x1,p0 x0 x1->p1 x0 x1->p2 x0 x1->p3 x0 x1->C):C:=by
 obtain ⟨x0,x1,h0,h1,h2,h3⟩:=h;exact k x0 x1 h0 h1 h2 h3
theorem pn{QR QZ:Type}{p0 p1 p2 p3:QR->QZ->Prop}(x0:QR)(x1:QZ)(h0:p0 x0 x1)(h1:p1 x0 x1)(h2:p2 x0 x1)(h3:p3 x0 x1):∃x0 x1,p0 x0 x1/\p1 x0 x1/\p2 x0 x1/\p3 x0 x1:=⟨x0,x1,h0,h1,h2,h3⟩
theorem LL{QR QZ:Type}{p0 p1 p2 p3 p4:QR->QZ->Prop}(x0:QR)(x1:QZ)(h0:p0 x0 x1)(h1:p1 x0 x1)(h2:p2 x0 x1)(h3:p3 x0 x1)(h4:p4 x0 x1):∃x0 x1,p0 x0 x1/\p1 x0 x1/\p2 x0 x1/\p3 x0 x1/\p4 x0 x1:=⟨x0,x1,h0,h1,h2,h3,h4⟩
theorem LK{QR QZ:Type}{p0 p1 p2 p3 p4 p5 p6:QR->QZ->Prop}(x0:QR)(x1:QZ)(h0:p0 x0 x1)(h1:p1 x0 x1)(h2:p2 x0 x1)(h3:p3 x0 x1)(h4:p4 x0 x1)(h5:p5 x0 x1)(h6:p6 x0 x1):∃x0 x1,p0 x0 x1/\p1 x0 x1/\p2 x0 x1/\p3 x0 x1/\p4 x0 x1/\p5 x0 x1/\p6 x0 x1:=⟨x0,x1,h0,h1,h2,h3,h4,h5,h6⟩
theorem IJ{QR QZ:Type}{p0 p1 p2 p3 p4 p5 p6 p7 p8 p9:QR->QZ->Prop}{C:Prop}(h:∃x0 x1,p0 x0 x1/\p1 x0 x1/\p2 x0 x1/\p3 x0 x1/\p4 x0 x1/\p5 x0 x1/\p6 x0 x1/\p7 x0 x1/\p8 x0 x1/\p9 x0 x1)(k:∀x0 x1,p0 x0 x1->p1 x0 x1->p2 x0 x1->p3 x0 x1->p4 x0 x1->p5 x0 x1->p6 x0 x1->p7 x0 x1->p8 x0 x1->p9 x0 x1->C):C:=by
 obtain ⟨x0,x1,h0,h1,h2,h3,h4,h5,h6,h7,h8,h9⟩:=h;exact k x0 x1 h0 h1 h2 h3 h4 h5 h6 h7 h8 h9
theorem IH{QR QZ:Type}{p0 p1 p2 p3 p4 p5 p6 p7 p8 p9:QR->QZ->Prop}(x0:QR)(x1:QZ)(h0:p0 x0 x1)(h1:p1 x0 x1)(h2:p2 x0 x1)(h3:p3 x0 x1)(h4:p4 x0 x1)(h5:p5 x0 x1)(h6:p6 x0 x1)(h7:p7 x0 x1)(h8:p8 x0 x1)(h9:p9 x0 x1):∃x0 x1,p0 x0 x1/\p1 x0 x1/\p2 x0 x1/\p3 x0 x1/\p4 x0 x1/\p5 x0 x1/\p6 x0 x1/\p7 x0 x1/\p8 x0 x1/\p9 x0 x1:=⟨x0,x1,h0,h1,h2,h3,h4,h5,h6,h7,h8,h9⟩
theorem lh{QR QZ Rh:Type}{p0:QR->QZ->Rh->Prop}{C:Prop}(h:∃x0 x1 x2,p0 x0 x1 x2)(k:∀x0 x1 x2,p0 x0 x1 x2->C):C:=by
 obtain ⟨x0,x1,x2,h0⟩:=h;exact k x0 x1 x2 h0
theorem yC{QR QZ Rh:Type}{p0:QR->QZ->Rh->Prop}(x0:QR)(x1:QZ)(x2:Rh)(h0:p0 x0 x1 x2):∃x0 x1 x2,p0 x0 x1 x2:=⟨x0,x1,x2,h0⟩
theorem pz{QR QZ Rh:Type}{p0 p1:QR->QZ->Rh->Prop}{C:Prop}(h:∃x0 x1 x2,p0 x0 x1 x2/\p1 x0 x1 x2)(k:∀x0 x1 x2,p0 x0 x1 x2->p1 x0 x1 x2->C):C:=by
 obtain ⟨x0,x1,x2,h0,h1⟩:=h;exact k x0 x1 x2 h0 h1
theorem LJ{QR QZ Rh:Type}{p0 p1:QR->QZ->Rh->Prop}(x0:QR)(x1:QZ)(x2:Rh)(h0:p0 x0 x1 x2)(h1:p1 x0 x1 x2):∃x0 x1 x2,p0 x0 x1 x2/\p1 x0 x1 x2:=⟨x0,x1,x2,h0,h1⟩
theorem vg{QR QZ Rh:Type}{p0 p1 p2:QR->QZ->Rh->Prop}{C:Prop}(h:∃x0 x1 x2,p0 x0 x1 x2/\p1 x0 x1 x2/\p2 x0 x1 x2)(k:∀x0 x1 x2,p0 x0 x1 x2->p1 x0 x1 x2->p2 x0 x1 x2->C):C:=by
 obtain ⟨x0,x1,x2,h0,h1,h2⟩:=h;exact k x0 x1 x2 h0 h1 h2
theorem CA{QR QZ Rh:Type}{p0 p1 p2:QR->QZ->Rh->Prop}(x0:QR)(x1:QZ)(x2:Rh)(h0:p0 x0 x1 x2)(h1:p1 x0 x1 x2)(h2:p2 x0 x1 x2):∃x0 x1 x2,p0 x0 x1 x2/\p1 x0 x1 x2/\p2 x0 x1 x2:=⟨x0,x1,x2,h0,h1,h2⟩
theorem CD{QR QZ Rh:Type}{p0 p1 p2 p3:QR->QZ->Rh->Prop}{C:Prop}(h:∃x0 x1 x2,p0 x0 x1 x2/\p1 x0 x1 x2/\p2 x0 x1 x2/\p3 x0 x1 x2)(k:∀x0 x1 x2,p0 x0 x1 x2->p1 x0 x1 x2->p2 x0 x1 x2->p3 x0 x1 x2->C):C:=by
 obtain ⟨x0,x1,x2,h0,h1,h2,h3⟩:=h;exact k x0 x1 x2 h0 h1 h2 h3
theorem Cz{QR QZ Rh:Type}{p0 p1 p2 p3:QR->QZ->Rh->Prop}(x0:QR)(x1:QZ)(x2:Rh)(h0:p0 x0 x1 x2)(h1:p1 x0 x1 x2)(h2:p2 x0 x1 x2)(h3:p3 x0 x1 x2):∃x0 x1 x2,p0 x0 x1 x2/\p1 x0 x1 x2/\p2 x0 x1 x2/\p3 x0 x1 x2:=⟨x0,x1,x2,h0,h1,h2,h3⟩
theorem LO{QR QZ Rh:Type}{p0 p1 p2 p3 p4 p5:QR->QZ->Rh->Prop}{C:Prop}(h:∃x0 x1 x2,p0 x0 x1 x2/\p1 x0 x1 x2/\p2 x0 x1 x2/\p3 x0 x1 x2/\p4 x0 x1 x2/\p5 x0 x1 x2)(k:∀x0 x1 x2,p0 x0 x1 x2->p1 x0 x1 x2->p2 x0 x1 x2->p3 x0 x1 x2->p4 x0 x1 x2->p5 x0 x1 x2->C):C:=by
 obtain ⟨x0,x1,x2,h0,h1,h2,h3,h4,h5⟩:=h;exact k x0 x1 x2 h0 h1 h2 h3 h4 h5
theorem vf{QR QZ Rh Se:Type}{p0:QR->QZ->Rh->Se->Prop}{C:Prop}(h:∃x0 x1 x2 x3,p0 x0 x1 x2 x3)(k:∀x0 x1 x2 x3,p0 x0 x1 x2 x3->C):C:=by
 obtain ⟨x0,x1,x2,x3,h0⟩:=h;exact k x0 x1 x2 x3 h0
theorem LI{QR QZ Rh Se:Type}{p0:QR->QZ->Rh->Se->Prop}(x0:QR)(x1:QZ)(x2:Rh)(x3:Se)(h0:p0 x0 x1 x2 x3):∃x0 x1 x2 x3,p0 x0 x1 x2 x3:=⟨x0,x1,x2,x3,h0⟩
theorem Hc{QR QZ Rh Se:Type}{p0 p1 p2:QR->QZ->Rh->Se->Prop}(x0:QR)(x1:QZ)(x2:Rh)(x3:Se)(h0:p0 x0 x1 x2 x3)(h1:p1 x0 x1 x2 x3)(h2:p2 x0 x1 x2 x3):∃x0 x1 x2 x3,p0 x0 x1 x2 x3/\p1 x0 x1 x2 x3/\p2 x0 x1 x2 x3:=⟨x0,x1,x2,x3,h0,h1,h2⟩
theorem He{QR QZ Rh Se:Type}{p0 p1 p2 p3 p4:QR->QZ->Rh->Se->Prop}{C:Prop}(h:∃x0 x1 x2 x3,p0 x0 x1 x2 x3/\p1 x0 x1 x2 x3/\p2 x0 x1 x2 x3/\p3 x0 x1 x2 x3/\p4 x0 x1 x2 x3)(k:∀x0 x1 x2 x3,p0 x0 x1 x2 x3->p1 x0 x1 x2 x3->p2 x0 x1 x2 x3->p3 x0 x1 x2 x3->p4 x0 x1 x2 x3->C):C:=by
 obtain ⟨x0,x1,x2,x3,h0,h1,h2,h3,h4⟩:=h;exact k x0 x1 x2 x3 h0 h1 h2 h3 h4
theorem Hb{QR QZ Rh Se:Type}{p0 p1 p2 p3 p4:QR->QZ->Rh->Se->Prop}(x0:QR)(x1:QZ)(x2:Rh)(x3:Se)(h0:p0 x0 x1 x2 x3)(h1:p1 x0 x1 x2 x3)(h2:p2 x0 x1 x2 x3)(h3:p3 x0 x1 x2 x3)(h4:p4 x0 x1 x2 x3):∃x0 x1 x2 x3,p0 x0 x1 x2 x3/\p1 x0 x1 x2 x3/\p2 x0 x1 x2 x3/\p3 x0 x1 x2 x3/\p4 x0 x1 x2 x3:=⟨x0,x1,x2,x3,h0,h1,h2,h3,h4⟩
theorem CC{QR QZ Rh Se:Type}{p0 p1 p2 p3 p4 p5 p6:QR->QZ->Rh->Se->Prop}{C:Prop}(h:∃x0 x1 x2 x3,p0 x0 x1 x2 x3/\p1 x0 x1 x2 x3/\p2 x0 x1 x2 x3/\p3 x0 x1 x2 x3/\p4 x0 x1 x2 x3/\p5 x0 x1 x2 x3/\p6 x0 x1 x2 x3)(k:∀x0 x1 x2 x3,p0 x0 x1 x2 x3->p1 x0 x1 x2 x3->p2 x0 x1 x2 x3->p3 x0 x1 x2 x3->p4 x0 x1 x2 x3->p5 x0 x1 x2 x3->p6 x0 x1 x2 x3->C):C:=by
 obtain ⟨x0,x1,x2,x3,h0,h1,h2,h3,h4,h5,h6⟩:=h;exact k x0 x1 x2 x3 h0 h1 h2 h3 h4 h5 h6
theorem yB{QR QZ Rh Se:Type}{p0 p1 p2 p3 p4 p5 p6:QR->QZ->Rh->Se->Prop}(x0:QR)(x1:QZ)(x2:Rh)(x3:Se)(h0:p0 x0 x1 x2 x3)(h1:p1 x0 x1 x2 x3)(h2:p2 x0 x1 x2 x3)(h3:p3 x0 x1 x2 x3)(h4:p4 x0 x1 x2 x3)(h5:p5 x0 x1 x2 x3)(h6:p6 x0 x1 x2 x3):∃x0 x1 x2 x3,p0 x0 x1 x2 x3/\p1 x0 x1 x2 x3/\p2 x0 x1 x2 x3/\p3 x0 x1 x2 x3/\p4 x0 x1 x2 x3/\p5 x0 x1 x2 x3/\p6 x0 x1 x2 x3:=⟨x0,x1,x2,x3,h0,h1,h2,h3,h4,h5,h6⟩
set_option tactic.hygienic false
set_option genInjectivity false
set_option genSizeOf false
section
noncomputable def er:Value->Value
 | .int i _=> .int i 0
 | .str s _=> .str s 0
 | .float b _=> .float b 0
 | .bytes b _=> .bytes b 0
 | v=>v
noncomputable abbrev vi(i:Int):Value:=.int i 0
@[simp] theorem Ol(i:Int)(t:Tok):er (.int i t)=vi i:=rfl
@[simp] theorem Oi(i:Str)(t:Tok):er (.str i t)=.str i 0:=rfl
@[simp] theorem Oj(a:Addr):er (.ref a)=.ref a:=rfl
@[simp] theorem MU:er .none=.none:=rfl
@[simp] theorem MW(b:Bool):er (.bool b)=.bool b:=rfl
@[simp] theorem IE(b:String):er (.builtin b)=.builtin b:=rfl
@[simp] theorem MT(b:String):er (.type b)=.type b:=rfl
@[simp] theorem Pa(v:Value):er (er v)=er v:=by cases v<;>rfl
theorem mv(h:er v=vi i):∃t,v=.int i t:=by
 cases v with
 | int j t=>cases h;exact ⟨_,rfl⟩
 | _=>exact (cI km h rfl).elim
theorem zY(h:er v=.str i 0):∃t,v=.str i t:=by
 cases v with
 | str j t=>cases h;exact ⟨_,rfl⟩
 | _=>exact (cI km h rfl).elim
theorem dJ(h:er v=.ref a):v=.ref a:=by
 cases v with
 | ref b=>exact h
 | _=>exact (cI km h rfl).elim
theorem ni(h:er v=.none):v=.none:=by
 cases v with
 | none=>rfl
 | _=>exact (cI km h rfl).elim
theorem iu(h:er v=.bool b):v=.bool b:=by
 cases v with
 | bool c=>exact h
 | _=>exact (cI km h rfl).elim
@[elab_as_elim] theorem iU{P:Value->Prop}(e:er v=vi i)(h:∀t,P (.int i t)):P v:=(mv e).elim λ t q=>q▸h t
@[elab_as_elim] theorem MX{P:Value->Prop}(e:er v=.str i 0)(h:∀t,P (.str i t)):P v:=(zY e).elim λ t q=>q▸h t
@[elab_as_elim] theorem jz{P:Value->Prop}(e:er v=.ref a)(h:P (.ref a)):P v:=dJ e▸h
@[elab_as_elim] theorem LH{P:Value->Prop}(e:er v=.none)(h:P .none):P v:=ni e▸h
@[elab_as_elim] theorem Ei{P:Value->Prop}(e:er v=.bool b)(h:P (.bool b)):P v:=iu e▸h
noncomputable abbrev wu(its:Array Value)(n:Nat):Obj:={cls:=.type "tuple",data:=.seq its n}
inductive aT where
 | list (xs:List Value)
 | tup (xs:List Value)
 | dict (kvs:List (Int×Value))
 | sdict (kvs:List (Str×Value))
 | ns (fs:List (Str×Value))
 | inst (C dx:Addr)
 | rng (lo:Int) (k:Nat)
 | raw (o:Obj)
 | ro (o:Obj) (v:aT)
structure Cx where
 prog:Program
 w:nD
 K:Frag
 p:Program
 loose:List Str
 mean:ExcName->Option Value
 mg:Str->Option Value
 mb:Str->Option Value
 os:rS
 drawn:GL
structure DN(C:Cx)(h:fT):Prop where
 X:C.K.In h
 T:Top C.p C.loose C.mean C.mg C.mb h
theorem DN.keeps(G:DN C h)(k:∀b o,h.get? b=some o->h'.get? b=some o):DN C h' :=⟨G.X.keeps k,G.T.keeps k⟩
inductive oV(C:Cx):List DictEntry->List (Str×Value)->Prop
 | nil:oV C [] []
 | cons {e f es fs}:(∃t,e.key=.str (HB f) t)->e.hash=rm C.w.params f.1->er e.val=f.2->oV C es fs->oV C (e::es) (f::fs)
noncomputable def At(C:Cx)(h:fT)(a:Addr):aT->Prop
 | .list xs=>∃(vs:List Value) (n:Nat),h.get? a=some (listOf vs.toArray n)/\vs.map er=xs
 | .tup xs=>∃(vs:List Value) (n:Nat),h.get? a=some (wu vs.toArray n)/\vs.map er=xs
 | .dict kvs=>∃QK :List (Int×Value),h.DictOf (eR C.prog C.w) a QK /\QK.map (λ p=>(p.1,er p.2))=kvs
 | .sdict kvs=>∃QK :List (Str×Value),h.DictOf (strKind C.prog C.w) a QK /\QK.map (λ p=>(p.1,er p.2))=kvs
 | .ns fs=>∃es n,h.get? a=some (Jx es n)/\oV C es fs
 | .inst c dx=>h.get? a=some (DU c dx)
 | .rng lo k=>∃(b:Int) (t u v:Tok),IsRange h a lo b 1 t u v/\MN lo b 1=k/\MM lo b 1=true
 | .raw o=>h.get? a=some o
 | .ro o v=>h.get? a=some o/\At C h a v
theorem At.there:∀{o:aT},At C h a o->∃ob,h.get? a=some ob
 | .list _,⟨_,_,x,_⟩=>⟨_,x⟩
 | .tup _,⟨_,_,x,_⟩=>⟨_,x⟩
 | .dict _,⟨_,⟨ob,_,_,x,_⟩,_⟩=>⟨ob,x⟩
 | .sdict _,⟨_,⟨ob,_,_,x,_⟩,_⟩=>⟨ob,x⟩
 | .ns _,⟨_,_,x,_⟩=>⟨_,x⟩
 | .inst _ _,x=>⟨_,x⟩
 | .rng _ _,⟨_,_,_,_,x,_⟩=>⟨_,x⟩
 | .raw _,x=>⟨_,x⟩
 | .ro _ _,x=>⟨_,x.1⟩
theorem At.keep(e:∀o,h.get? a=some o->h'.get? a=some o):∀{o:aT},At C h a o->At C h' a o
 | .list _,⟨vs,n,x,q⟩=>⟨vs,n,e _ x,q⟩
 | .tup _,⟨vs,n,x,q⟩=>⟨vs,n,e _ x,q⟩
 | .dict _,⟨vs,⟨ob,es,ep,x,r⟩,q⟩=>⟨vs,⟨ob,es,ep,e _ x,r⟩,q⟩
 | .sdict _,⟨vs,⟨ob,es,ep,x,r⟩,q⟩=>⟨vs,⟨ob,es,ep,e _ x,r⟩,q⟩
 | .ns _,⟨es,n,x,r⟩=>⟨es,n,e _ x,r⟩
 | .inst _ _,x=>e _ x
 | .rng _ _,⟨b,t,u,v,x,r⟩=>⟨b,t,u,v,e _ x,r⟩
 | .raw _,x=>e _ x
 | .ro _ _,x=>⟨e _ x.1,x.2.keep e⟩
noncomputable abbrev AH:=List (Addr×aT)
noncomputable def AH.get(U:AH)(a:Addr):Option aT:=y5 a U
noncomputable def AH.put(U:AH)(a:Addr)(o:aT):AH:=(a,o)::U
noncomputable def AH.rd(U:AH)(a:Addr):Option aT:=match U.get a with
 | some (.ro _ v)=>some v
 | x=>x
theorem AH.get_put(U:AH)(a b:Addr)(o:aT):(U.put a o).get b=if b=a then some o else U.get b:=by
 unfold AH.put AH.get
 refine af bq ?_
 by_cases h:b=a
 ·subst h;simp
 ·have:(b==a)=false:=by simpa using h
  simp [this,h]
@[simp] theorem AH.get_put_self(U:AH)(a:Addr)(o:aT):(U.put a o).get a=some o:=by simp [AH.get_put]
theorem AH.get_put_ne{U:AH}(h:b≠a):(U.put a o).get b=U.get b:=by simp [AH.get_put,h]
theorem AH.dom{U:AH}{a:Addr}(h:a∈ln (λ p=>p.1) U):∃o,U.get a=some o:=by
 induction U with
 | nil=>cases h
 | cons p r ih=>
  obtain ⟨b,o⟩:=p
  by_cases e:a=b
  ·(try clear h);subst e;exact ⟨o,AH.get_put_self r a o⟩
  ·rcases aL.mp h with q | q
   ·exact absurd q e
   ·exact aS (ih q) λ o' ho' =>⟨o',(AH.get_put_ne (U:=r) e).trans ho'⟩
theorem AH.dom'{U:AH}(h:U.get a=some o):a∈ln (λ p=>p.1) U:=by
 induction U with
 | nil=>exact (bw h).elim
 | cons p r ih=>
  obtain ⟨b,o'⟩:=p
  by_cases e:a=b
  ·(try clear h);subst e;exact .head _
  ·exact .tail _ (ih ((AH.get_put_ne (U:=r) e).symm.trans h))
structure c_ where
 A:dY
 fenv:Env
 env:Env
 outer:List Env
 A0:dY
 base:fT
 h₀:fT
 L:Addr
 oL:Option (Str->Option Value)
 cells:List (Str×Addr)
 exc:Value->aE->Prop:=λ V V=>False
noncomputable def c_.ownA(F:c_):List Addr:=F.cells.map (·.2)++(if F.oL.isSome then [F.env.locals] else [])
structure c_.Ok(C:Cx)(n:Nat)(F:c_):Prop where
 B:A8 F.A0 F.base F.outer F.h₀
 hA:F.A.frames=some (F.fenv::F.outer)
 hf:F.fenv.frame=some F.L
 hk:F.fenv.scope.kind=.function
 G:DN C F.h₀
 ek:F.env.scope.kind=.function
 eg:F.env.globals=cX
 eb:F.env.builtins=builtinsNs
 el:F.oL=none->F.env.locals=F.L
 ei:F.oL.isSome=true->F.env.locals≠F.L
 handled:F.A.handled=none
 capart:F.cells.Pairwise λ x y=>x.2≠y.2
 cloc:∀x∈F.cells,x.2≠F.env.locals
 csub:∀x c,F.cells.lookup x=some c->F.env.cells.lookup x=some c
 cok:∀x,(F.env.kindOf x=some .cell\/F.env.kindOf x=some .free)->x≠ "__class__"->∃c,F.cells.lookup x=some c
 depth:F.A.depth+3*n<kY
 units:F.A.units+10*n<cLine
 xs:∀e s,F.exc e s->notedBy (bL C.prog C.w) F.A F.env (Jy (bL C.prog C.w) F.A F.env F.exc) e s
noncomputable def rH(F:c_)(h:fT)(a:Addr):Prop:=(∃o,h.get? a=some o)/\a≠F.L/\F.h₀.get? a=none
structure l5(C:Cx)(s:aE):Prop where
 gens:s.gens=#[]
 os:s.os=C.os
 dr:s.drawn=C.drawn
noncomputable def Md(F:c_)(h:fT)(x:Str)(v:Value):Prop:=(x==("__debug__":Str))=false/\(x==("__classdict__":Str))=false/\∃cv,er cv=v/\
 ((F.env.kindOf x=some .local/\∃ml,h.Ns F.env.locals ml/\ml x=some cv)\/
  ((F.env.kindOf x=some .cell\/F.env.kindOf x=some .free)/\∃c,F.cells.lookup x=some c/\h.IsCell c (some cv)))
structure cj(C:Cx)(F:c_)(Z:List (Addr×Obj))(s:aE)(m:Str->Option Value)(U:AH):Prop where
 core:l5 C s
 fr:∃mL,Fr F.h₀ F.L s.heap mL
 inn:∀ml,F.oL=some ml->s.heap.Ns F.L ml
 loc:∃ml,s.heap.Ns F.env.locals ml
 var:∀x v,m x=some v->Md F s.heap x v
 cel:∀x∈F.cells,∃cv,s.heap.IsCell x.2 cv
 own:∀a∈F.ownA,rH F s.heap a/\U.get a=none/\∀p∈Z,p.1≠a
 zz:∀p∈Z,s.heap.get? p.1=some p.2/\p.1≠F.L/\F.h₀.get? p.1=none/\U.get p.1=none
 sg:∀a o,U.get a=some o->rH F s.heap a/\At C s.heap a o
 sm:∀a o,U.get a=some o->3<a
theorem l5.upd(h:l5 C s):l5 C {s with heap:=hp,toks:=tk}:=⟨h.gens,h.os,h.dr⟩
theorem cQ{h h' :fT}(x:h.IsCell c v)(k:∀o,h.get? c=some o->h'.get? c=some o):h'.IsCell c v:=
 let ⟨o,a,b⟩:=x;⟨o,k _ a,b⟩
theorem d4{h h' :fT}{v:Str->Option Value}(x:h.Ns c v)(k:∀o,h.get? c=some o->h'.get? c=some o):h'.Ns c v:=
 let ⟨o,es,ep,a,b⟩:=x;⟨o,es,ep,k _ a,b⟩
section
variable{C:Cx}{F:c_}{Z:List (Addr×Obj)}{s s' :aE}{m:Str->Option Value}{U U' :AH}{n:Nat}
theorem cj.keep(R:cj C F Z s m U):∀b o,F.h₀.get? b=some o->s.heap.get? b=some o:=let ⟨_,f⟩:=R.fr;f.keep
theorem cj.L_live(R:cj C F Z s m U):∃o,s.heap.get? F.L=some o:=let ⟨_,f⟩:=R.fr;let ⟨o,_,_,h,_⟩:=f.ns;⟨o,h⟩
theorem cj.step(O:F.Ok C n)(R:cj C F Z s m U)(c' :l5 C s')(W:Addr->Prop)(hW:∀a,W a->∃o,U.get a=some o)
  (hk:∀b o,¬W b->s.heap.get? b=some o->s'.heap.get? b=some o)
  (T6:∀a o,U'.get a=some o->(U.get a=some o/\¬W a)\/((W a\/(s.heap.get? a=none/\3<a))/\At C s'.heap a o)):cj C F Z s' m U' :=by
 have offL:¬W F.L:=λ h=>aS (hW _ h) λ o e=>((R.sg _ _ e).1.2.1 rfl)
 have offO:∀a∈F.ownA,¬W a:=λ a ha h=>by refine aS (hW _ h) λ o e=>?_;replace e:=(R.own a ha).2.1▸e;exact (bw e).elim
 have offG:∀a o,F.h₀.get? a=some o->¬W a:=λ a o ha h=>by refine aS (hW _ h) λ o e=>?_;replace ha:=(R.sg _ _ e).1.2.2▸ha;exact (bw ha).elim
 have offZ:∀p∈Z,¬W p.1:=λ p hp h=>by refine aS (hW _ h) λ o e=>?_;replace e:=(R.zz p hp).2.2.2▸e;exact (bw e).elim
 have offl:¬W F.env.locals:=by
  cases hl:F.oL with
  | none=>exact ah (O.el hl) offL
  | some o=>exact offO _ (by simp [c_.ownA,hl])
 have offc:∀x∈F.cells,¬W x.2:=λ x hx=>offO _ (by simp [c_.ownA];exact .inl ⟨_,hx⟩)
 have none' :∀a,U.get a=none->(∃o,s.heap.get? a=some o)->U'.get a=none:=λ a ha hl=>by
  cases q:U'.get a with
  | none=>rfl
  | some o=>
   rcases T6 a o q with h | ⟨h,_⟩
   ·replace h:=ha▸h;cases h.1
   ·rcases h with h | h
    ·refine aS (hW _ h) λ o e=>?_;replace e:=ha▸e;exact (bw e).elim
    ·refine aS hl λ o e=>?_;clear hl;replace e:=h.1▸e;exact (bw e).elim
 refine aS R.fr λ mL f=>⟨c',⟨mL,d4 f.ns (λ o e=>hk _ _ offL e),λ b o e=>hk _ _ (offG b o e) (f.keep b o e),f.above⟩,λ o e=>d4 (R.inn o e) (λ o e=>hk _ _ offL e),?_,?_,?_,?_,?_,?_,?_⟩
 ·exact aS R.loc λ ml x=>⟨ml,d4 x λ o e=>hk _ _ offl e⟩
 ·intro x v hx
  obtain ⟨a,a',cv,e,h⟩:=R.var x v hx
  refine ⟨a,a',cv,e,?_⟩
  rcases h with ⟨k,ml,hn,hv⟩ | ⟨k,c,hc,hv⟩
  ·exact .inl ⟨k,ml,d4 hn λ o e=>hk _ _ offl e,hv⟩
  ·exact .inr ⟨k,c,hc,cQ hv λ o e=>hk _ _ (offc _ (mem_of_lookup hc)) e⟩
 ·intro x hx;exact aS (R.cel x hx) λ cv h=>⟨cv,cQ h λ o e=>hk _ _ (offc x hx) e⟩
 ·intro a ha
  refine cu (R.own a ha) λ QI b c=>(cu QI λ Rc l2 l3=>?_);clear QI;obtain ⟨o,ho⟩:=Rc
  exact du ⟨⟨o,hk _ _ (offO a ha) ho⟩,l2,l3⟩ (none' a b ⟨o,ho⟩) c
 ·intro p hp
  exact fD (R.zz p hp) λ a b c d=>(gN (hk _ _ (offZ p hp) a) b c (none' _ d ⟨_,a⟩))
 ·intro a o e
  rcases T6 a o e with ⟨h,hw⟩ | ⟨h,ha⟩
  ·refine aU (R.sg a o h) λ QL d=>(cu QL λ Rp b c=>?_);clear QL;obtain ⟨ob,x⟩:=Rp
   exact ⟨⟨⟨ob,hk _ _ hw x⟩,b,c⟩,d.keep λ o e=>hk _ _ hw e⟩
  ·refine ⟨⟨ha.there,?_,?_⟩,ha⟩
   ·clear e ha;rcases h with h | h
    ·exact aS (hW _ h) λ o e=>((R.sg _ _ e).1.2.1)
    ·rintro rfl;refine aS R.L_live λ o e=>?_;replace e:=h.1▸e;exact (bw e).elim
   ·rcases h with h | h
    ·exact aS (hW _ h) λ o e=>((R.sg _ _ e).1.2.2)
    ·cases q:F.h₀.get? a with
     | none=>rfl
     | some o=>have:=h.1;replace this:=R.keep _ _ q▸this;exact (gY this).elim
 ·intro a o e
  rcases T6 a o e with ⟨h,_⟩ | ⟨h | h,_⟩
  ·exact R.sm a o h
  ·exact aS (hW _ h) λ o e=>(R.sm _ _ e)
  ·exact h.2
theorem cj.grow(O:F.Ok C n)(R:cj C F Z s m U)(c' :l5 C s')(hk:∀b o,s.heap.get? b=some o->s'.heap.get? b=some o):cj C F Z s' m U:=
 R.step O c' (λ V=>False) (λ V h=>h.elim) (λ b o V e=>hk b o e) (λ V V e=> .inl ⟨e,id⟩)
theorem cj.toks(O:F.Ok C n)(R:cj C F Z s m U):cj C F Z {s with toks:=tk} m U:=R.grow O (R.core.upd (hp:=s.heap)) λ V V e=>e
theorem cj.new(O:F.Ok C n)(R:cj C F Z s m U)(c' :l5 C s')(hk:∀b o,s.heap.get? b=some o->s'.heap.get? b=some o)(hn:s.heap.get? a=none)(h3:3<a)(ha:At C s'.heap a o):
  cj C F Z s' m (U.put a o):=
 R.step O c' (λ V=>False) (λ V h=>h.elim) (λ b o V e=>hk b o e) λ b o' e=>by
  replace e:=(AH.get_put ..)▸e
  split at e
  ·rename_i h;subst h;have QT:=sI e;clear e;subst QT;exact .inr ⟨.inr ⟨hn,h3⟩,ha⟩
  ·exact .inl ⟨e,id⟩
theorem cj.set(O:F.Ok C n)(R:cj C F Z s m U)(c' :l5 C s')(h₀:U.get a=some o0)(hk:∀b o,b≠a->s.heap.get? b=some o->s'.heap.get? b=some o)(ha:At C s'.heap a o):
  cj C F Z s' m (U.put a o):=
 R.step O c' (λ b=>b=a) (λ V h=>h▸⟨_,h₀⟩) (λ b o n e=>hk b o n e) λ b o' e=>by
  replace e:=(AH.get_put ..)▸e
  split at e
  ·rename_i h;clear hk h₀;subst h;have QW:=sI e;clear e;subst QW;exact .inr ⟨.inl rfl,ha⟩
  ·rename_i h;exact .inl ⟨e,h⟩
theorem cj.forget{m' :Str->Option Value}(R:cj C F Z s m U)(h:∀x v,m' x=some v->m x=some v):cj C F Z s m' U:=
 ⟨R.core,R.fr,R.inn,R.loc,λ x v e=>R.var x v (h x v e),R.cel,R.own,R.zz,R.sg,R.sm⟩
theorem cj.top(O:F.Ok C n)(R:cj C F Z s m U):3<s.heap.objs.size:=(O.G.T.g.keeps R.keep).lt
theorem cj.notSys(R:cj C F Z s m U)(h:U.get a=some o):(a==kX)=false:=by
 have:=R.sm a o h
 have e:kX=1:=rfl
 exact ah e (beq_false_of_ne (dq (bD (by decide) this)))
theorem cj.fresh(R:cj C F Z s m U)(h:s.heap.get? a=none):U.get a=none:=by
 cases q:U.get a with
 | none=>rfl
 | some o=>refine aU (R.sg _ _ q) λ QY V=>(aU QY λ Q7 V=>?_);clear QY;obtain ⟨ob,e⟩:=Q7;replace e:=h▸e;exact (bw e).elim
theorem AH.rd_get(h:U.rd a=some o):U.get a=some o\/∃ob,U.get a=some (.ro ob o):=by
 unfold AH.rd at h
 cases e:U.get a with
 | none=>replace h:=e▸h;exact .inl h
 | some q=>replace h:=e▸h;cases q with
  | ro ob v=>have Rb:=sI h;clear h;subst Rb;exact .inr ⟨ob,rfl⟩
  | _=>exact .inl h
theorem cj.at(R:cj C F Z s m U)(h:U.rd a=some o):At C s.heap a o:=by
 rcases AH.rd_get h with q | ⟨ob,q⟩
 ·exact (R.sg _ _ q).2
 ·exact (R.sg _ _ q).2.2
end
inductive PX(C:Cx)(F:c_)(Z:List (Addr×Obj))(m:Str->Option Value)(s0:aE)(Q:Value->AH->Prop)(r:Except Raised fH)(s:aE):Prop where
 | mk (v:Value) (U:AH) (e:r=.ok (.ret v)) (R:cj C F Z s m U) (q:Q (er v) U) (f:∀mL,Fr F.h₀ F.L s0.heap mL->Fr F.h₀ F.L s.heap mL)
theorem sN{α:Type}{M:AW}{A:dY}{t:Sem α}{W:α->aE->Prop}{E:Value->aE->Prop}{s:aE}(h:br M A t W (λ V V=>False) s):br M A t W E s:=cz h (λ V V x=>x) λ V V x=>x.elim
noncomputable def WE(C:Cx)(F:c_)(n:Nat)(e:Expr)(m:Str->Option Value)(U:AH)(Q:Value->AH->Prop):Prop:=
 F.Ok C n->∀Z s W,cj C F Z s m U->(∀v s U,cj C F Z s m U->Q (er v) U->W v s)->br (bL C.prog C.w) F.A (fF e F.env) W (λ V V=>False) s
noncomputable def WT(C:Cx)(F:c_)(n:Nat)(e:Expr)(m:Str->Option Value)(U:AH)(Q:Bool->AH->Prop):Prop:=
 F.Ok C n->∀Z s W,cj C F Z s m U->(∀v s U,cj C F Z s m U->Q v U->W v s)->br (bL C.prog C.w) F.A (isTrue e F.env (fF e F.env)) W (λ V V=>False) s
noncomputable def WO{α:Type}(C:Cx)(F:c_)(n:Nat)(t:Sem α)(m:Str->Option Value)(U:AH)(Q:α->AH->Prop):Prop:=
 F.Ok C n->∀Z s W,cj C F Z s m U->(∀v s U,cj C F Z s m U->Q v U->W v s)->br (bL C.prog C.w) F.A t W (λ V V=>False) s
noncomputable def WS(C:Cx)(F:c_)(n:Nat)(b:List Stmt)(m:Str->Option Value)(U:AH)(Q:fH->(Str->Option Value)->AH->Prop):Prop:=
 F.Ok C n->∀Z s W,cj C F Z s m U->(∀f s m U,cj C F Z s m U->Q f m U->W f s)->br (bL C.prog C.w) F.A (AV b F.env) W F.exc s
noncomputable def W1(C:Cx)(F:c_)(n:Nat)(b:Stmt)(m:Str->Option Value)(U:AH)(Q:fH->(Str->Option Value)->AH->Prop):Prop:=
 F.Ok C n->∀Z s W,cj C F Z s m U->(∀f s m U,cj C F Z s m U->Q f m U->W f s)->br (bL C.prog C.w) F.A (exec b F.env) W F.exc s
noncomputable def WC(C:Cx)(n:Nat)(f:Addr)(args:List Value)(U:AH)(Q:Value->AH->Prop):Prop:=
 ∀(F:c_) Z s m QE,F.Ok C n->cj C F Z s m U->QE.map er=args->
  ij (bL C.prog C.w) F.A (.call (.ref f) ⟨QE,[]⟩) (PX C F Z m s Q) s
theorem WE.mono{Q Q' :Value->AH->Prop}(h:WE C F n e m U Q)(k:∀v U,Q v U->Q' v U):WE C F n e m U Q' :=
 λ O Z s W R K=>h O Z s W R λ V V V a b=>K _ _ _ a (k _ _ b)
theorem WT.mono{Q Q' :Bool->AH->Prop}(h:WT C F n e m U Q)(k:∀v U,Q v U->Q' v U):WT C F n e m U Q' :=
 λ O Z s W R K=>h O Z s W R λ V V V a b=>K _ _ _ a (k _ _ b)
theorem WS.mono{Q Q' :fH->(Str->Option Value)->AH->Prop}(h:WS C F n e m U Q)(k:∀f m U,Q f m U->Q' f m U):WS C F n e m U Q' :=
 λ O Z s W R K=>h O Z s W R λ V V V V a b=>K _ _ _ _ a (k _ _ _ b)
theorem WC.mono{Q Q' :Value->AH->Prop}(h:WC C n f args U Q)(k:∀v U,Q v U->Q' v U):WC C n f args U Q' :=
 λ F Z s m as O R e=>f_ (h F Z s m as O R e) λ V V Q8=>by obtain ⟨v,U',a,b,c,d⟩:=Q8;exact ⟨v,U',a,b,k _ _ c,d⟩
end
section
noncomputable def fe(m:Str->Option Value)(x:Str)(v:Value):Str->Option Value:=λ y=>if y=x then some v else m y
theorem qz{P:Value->aE->Prop}:∀e s,False->P e s:=λ V V h=>h.elim
theorem fC{h:fT}{m m' :Str->Option Value}(x:h.Ns a m)(y:h.Ns a m'):m=m' :=by
 refine CD x λ o es ep ho hd V hf=>?_;clear x
 refine CD y λ o' Zu Zy ho' hd' V Vs =>?_;clear y
 replace ho' :=ho▸ho';(try clear ho);have QI:=sI ho';clear ho';subst QI
 replace hd' :=hd▸hd';cases hd'
 funext n;exact Bi (hf ..) (dI (Vs ..) rfl)
section
variable{C:Cx}{F:c_}{n:Nat}{m:Str->Option Value}{U:AH}{Z:List (Addr×Obj)}{s:aE}
theorem c_.Ok.offCell(O:F.Ok C n)(h:F.cells.lookup x=some c):c≠F.env.locals:=O.cloc _ (mem_of_lookup h)
theorem cj.storeL(O:F.Ok C n)(R:cj C F Z s m U){ml:Str->Option Value}(hd:(x==("__debug__":Str))=false)(Rz:(x==("__classdict__":Str))=false)
  (hk:F.env.kindOf x=some .local) (hn0:s.heap.Ns F.env.locals ml)
  (hn:h'.Ns F.env.locals (λ y=>if y=x then some cv else ml y)) (hs:gx F.env.locals s.heap h'):cj C F Z {s with heap:=h',toks:=tk} (fe m x (er cv)) U:=by
 refine aS R.fr λ mL f=>?_
 have lo:F.h₀.get? F.env.locals=none:=by
  cases hl:F.oL with
  | none=>
   refine ah (O.el hl) ?_
   cases q:F.h₀.get? F.L with
   | none=>rfl
   | some o=>exact absurd (aq (bz q) f.above) (bP _)
  | some o=>exact (R.own F.env.locals (by simp [c_.ownA,hl])).1.2.2
 have off:∀b o,F.h₀.get? b=some o->b≠F.env.locals:=λ b o e q=>by replace e:=lo▸q▸e;exact (bw e).elim
 have offOwn:∀p∈Z,p.1≠F.env.locals:=λ p hp q=>by
  cases hl:F.oL with
  | none=>exact (R.zz p hp).2.1 (q.trans (O.el hl))
  | some o=>exact (R.own F.env.locals (by simp [c_.ownA,hl])).2.2 p hp q
 have offσ:U.get F.env.locals=none:=by
  cases hl:F.oL with
  | none=>
   refine ah (O.el hl) ?_
   cases q:U.get F.L with
   | none=>rfl
   | some o=>exact absurd rfl (R.sg _ _ q).1.2.1
  | some o=>exact (R.own F.env.locals (by simp [c_.ownA,hl])).2.1
 have live:∀a,rH F s.heap a->rH F h' a:=λ a ⟨⟨o,ho⟩,l2,l3⟩=>by
  refine du ?_ l2 l3
  by_cases e:a=F.env.locals
  ·clear ho l2 l3;subst e;refine pz hn λ o' V V h V=>?_;clear hn;exact ⟨o',h⟩
  ·exact ⟨o,(hs.2 a e).trans ho⟩
 refine ⟨R.core.upd,?_,?_,⟨_,hn⟩,?_,?_,?_,?_,?_,R.sm⟩
 ·by_cases e:F.env.locals=F.L
  ·replace hn:=e▸hn;exact ⟨_,hn,λ b o q=>(hs.2 b (off b o q)).trans (f.keep b o q),f.above⟩
  ·exact ⟨mL,d4 f.ns (λ o q=>(hs.2 _ (gk e)).trans q),λ b o q=>(hs.2 b (off b o q)).trans (f.keep b o q),f.above⟩
 ·intro o e
  have:=O.ei (ah e rfl)
  exact d4 (R.inn o e) λ o q=>(hs.2 _ (gk this)).trans q
 ·intro y v hy
  unfold fe at hy
  split at hy
  ·rename_i e;subst e;have QL:=sI hy;clear hy;subst QL
   exact ⟨hd,Rz,cv,rfl,.inl ⟨hk,_,hn,by simp⟩⟩
  ·rename_i e
   obtain ⟨a,a',TD,e',q⟩:=R.var y v hy
   refine ⟨a,a',TD,e',?_⟩
   rcases q with ⟨k,WQ,hm,hv⟩ | ⟨k,c,hc,hv⟩
   ·replace hv:=fC hm hn0▸hv
    exact .inl ⟨k,_,hn,by simp [e,hv]⟩
   ·exact .inr ⟨k,c,hc,cQ hv λ o q=>(hs.2 _ (O.offCell hc)).trans q⟩
 ·intro y hy;exact aS (R.cel y hy) λ TD h=>⟨TD,cQ h λ o q=>(hs.2 _ (O.cloc _ hy)).trans q⟩
 ·intro a ha;exact cu (R.own a ha) λ l b c=>(du (live a l) b c)
 ·intro p hp;exact fD (R.zz p hp) λ a b c d=>(gN ((hs.2 _ (offOwn p hp)).trans a) b c d)
 ·intro a o e
  exact aU (R.sg a o e) λ l q=>⟨live a l,q.keep λ ob h=>(hs.2 a (λ z=>by replace e:=offσ▸z▸e;exact (bw e).elim)).trans h⟩
theorem cj.storeC(O:F.Ok C n)(R:cj C F Z s m U)(hd:(x==("__debug__":Str))=false)(Rz:(x==("__classdict__":Str))=false)
  (hk:F.env.kindOf x=some .cell) (hc:F.cells.lookup x=some c)
  (hn:h'.IsCell c (some cv)) (hs:gx c s.heap h'):cj C F Z {s with heap:=h',toks:=tk} (fe m x (er cv)) U:=by
 have hcm:c∈F.ownA:=by simp [c_.ownA];exact .inl ⟨_,mem_of_lookup hc⟩
 refine cu (R.own c hcm) λ QT Xj cZ=>(cu QT λ V cL c0=>?_);clear QT
 (try clear hcm);refine aS R.fr λ mL f=>?_
 have off:∀b o,F.h₀.get? b=some o->b≠c:=λ b o e q=>by replace e:=c0▸q▸e;exact (bw e).elim
 have cl:F.env.locals≠c:=gk (O.offCell hc)
 have live:∀a,rH F s.heap a->rH F h' a:=λ a ⟨⟨o,ho⟩,l2,l3⟩=>by
  refine du ?_ l2 l3
  by_cases e:a=c
  ·clear c0 cL cZ cl Xj hc hs off;subst e;refine aM hn λ o' h V=>?_;clear hn;exact ⟨o',h⟩
  ·exact ⟨o,(hs.2 a e).trans ho⟩
 refine ⟨R.core.upd,?_,?_,?_,?_,?_,?_,?_,?_,R.sm⟩
 ·exact ⟨mL,d4 f.ns (λ o q=>(hs.2 _ (gk cL)).trans q),λ b o q=>(hs.2 b (off b o q)).trans (f.keep b o q),f.above⟩
 ·intro o e;exact d4 (R.inn o e) λ o q=>(hs.2 _ (gk cL)).trans q
 ·exact aS R.loc λ ml h=>⟨ml,d4 h λ o q=>(hs.2 _ cl).trans q⟩
 ·intro y v hy
  unfold fe at hy
  split at hy
  ·rename_i e;subst e;have QW:=sI hy;clear hy;subst QW
   exact ⟨hd,Rz,cv,rfl,.inr ⟨.inl hk,c,hc,hn⟩⟩
  ·rename_i e
   obtain ⟨a,a',TD,e',q⟩:=R.var y v hy
   refine ⟨a,a',TD,e',?_⟩
   rcases q with ⟨k,WQ,hm,hv⟩ | ⟨k,c',RQ,hv⟩
   ·exact .inl ⟨k,WQ,d4 hm λ o q=>(hs.2 _ cl).trans q,hv⟩
   ·refine .inr ⟨k,c',RQ,cQ hv λ o q=>(hs.2 _ λ z=>?_).trans q⟩
    exact e (DR O.capart (mem_of_lookup RQ) (z▸mem_of_lookup hc))
 ·intro y hy
  by_cases e:y.2=c
  ·exact ah e ⟨_,hn⟩
  ·exact aS (R.cel y hy) λ TD h=>⟨TD,cQ h λ o q=>(hs.2 _ e).trans q⟩
 ·intro a ha;exact cu (R.own a ha) λ l b c=>(du (live a l) b c)
 ·intro p hp;exact fD (R.zz p hp) λ a b c' d=>(gN ((hs.2 _ (cZ p hp)).trans a) b c' d)
 ·intro a o e
  exact aU (R.sg a o e) λ l q=>⟨live a l,q.keep λ ob h=>(hs.2 a (λ z=>by replace e:=Xj▸z▸e;exact (bw e).elim)).trans h⟩
noncomputable def Stores(F:c_)(x:Str):Prop:=(x==("__debug__":Str))=false/\(x==("__classdict__":Str))=false/\(F.env.kindOf x=some .local\/(F.env.kindOf x=some .cell/\∃c,F.cells.lookup x=some c))
theorem ge{E:Value->aE->Prop}{Q:Unit->aE->Prop}(O:F.Ok C n)(R:cj C F Z s m U)(S:Stores F x)
  (h:∀s',cj C F Z s' (fe m x (er cv)) U->Q () s'):br (bL C.prog C.w) F.A (storeName F.env x cv) Q E s:=by
 obtain ⟨hd,Rz,hk | ⟨hk,c,hc⟩⟩:=S
 ·exact aS R.loc λ ml hn=>(wpAny_storeName_local hk hn (λ h' hn' hs=>h _ (R.storeL O hd Rz hk hn hn' hs))
   (((ah O.ek rfl):(F.env.scope.kind==.class || (F.env.scope.kind==.module&&_))=false)))
 ·exact aS (R.cel _ (mem_of_lookup hc)) λ v0 hv=>(wpAny_storeName_cell O.ek hk (O.csub _ _ hc) hv λ h' hn hs=>h _ (R.storeC O hd Rz hk hc hn hs))
theorem d6{Q:Value->AH->Prop}(hm:m x=some v)(h:Q v U):WE C F n (.Name x pos) m U Q:=λ O Z s W R K=>by
 obtain ⟨hd,Rz,cv,e,q⟩:=R.var x v hm
 rcases q with ⟨k,ml,hn,hv⟩ | ⟨k | k,c,hc,hv⟩
 ·exact kU (fq O.ek k hn hv (K _ _ _ R (e▸h))) hd
 ·exact kU (wpAny_loadName_cell O.ek k (O.csub _ _ hc) hv (K _ _ _ R (e▸h))) hd
 ·exact kU (Hr O.ek k (O.csub _ _ hc) hv (K _ _ _ R (e▸h)) Rz) hd
theorem Au{Q:Value->AH->Prop}(hk:F.env.kindOf x=some .globalImplicit)(hx:oq C.K cX x=some (some v))(hd:(x==("__debug__":Str))=false)(h:Q (er v) U):
  WE C F n (.Name x pos) m U Q:=λ O Z s W R K=>
 dD O.ek hk (iO (ah O.eg (O.G.T.g.keeps R.keep)) (JO O.G.X O.G.T.g hx) (K _ _ _ R h)) hd
theorem xD{Q:Value->AH->Prop}(hk:F.env.kindOf x=some .globalImplicit)(hx:oq C.K cX x=some none)(hb:fu x=some v)(hn:x≠ "__name__")(hd:(x==("__debug__":Str))=false)(h:Q (er v) U):
  WE C F n (.Name x pos) m U Q:=λ O Z s W R K=>
 dD O.ek hk (iz (ah O.eg (O.G.T.g.keeps R.keep)) (rc O.G.X O.G.T.g hx) (ah O.eb (O.G.T.b.keeps R.keep)) ((O.G.T.builtins x hn).trans hb) (K _ _ _ R h)) hd
theorem tV{Q:Value->AH->Prop}(h:Q (vi i) U):WE C F n (.Constant (.int i) k pos) m U Q:=λ O Z s W R K=>wpAny_Constant_int (K _ _ _ (R.toks O) h)
theorem xC{Q:Value->AH->Prop}(h:Q (.str i 0) U):WE C F n (.Constant (.str i) k pos) m U Q:=λ O Z s W R K=>Jo (K _ _ _ (R.toks O) h)
theorem tW{Q:Value->AH->Prop}(h:Q (.bool i) U):WE C F n (.Constant (.bool i) k pos) m U Q:=λ O Z s W R K=>wpAny_Constant_bool (K _ _ _ R h)
theorem yU{Q:Value->AH->Prop}(h:Q .none U):WE C F n (.Constant .none k pos) m U Q:=λ O Z s W R K=>wpAny_Constant_none (K _ _ _ R h)
noncomputable def WV{α:Type}(C:Cx)(F:c_)(n:Nat)(f:Value->Sem α)(a:Value)(m:Str->Option Value)(U:AH)(Q:α->AH->Prop):Prop:=∀a',er a' =a->WO C F n (f a') m U Q
noncomputable def iK{α:Type}(C:Cx)(F:c_)(n:Nat)(f:Value->Value->Sem α)(a b:Value)(m:Str->Option Value)(U:AH)(Q:α->AH->Prop):Prop:=∀a' b',er a' =a->er b' =b->WO C F n (f a' b') m U Q
noncomputable def qe(Q:Value->AH->Prop):Value->AH->Prop:=λ v U=>Q (er v) U
theorem DF{Q:Value->AH->Prop}(h:WE C F n l m U λ a U1=>WE C F n r m U1 λ b QB=>iK C F n (eM op) a b m QB (qe Q)):WE C F n (.BinOp l op r pos) m U Q:=λ O Z s W R K=>
 Qo (h O Z s _ R λ a s₁ U1 R₁ QC=>QC O Z s₁ _ R₁ λ b s₂ QB R₂ QP=>QP a b rfl rfl O Z s₂ _ R₂ K)
theorem L9{Q:Value->AH->Prop}(h:WE C F n x m U λ a U1=>WV C F n (JN op) a m U1 (qe Q)):WE C F n (.UnaryOp op x pos) m U Q:=λ O Z s W R K=>
 wpAny_UnaryOp (h O Z s _ R λ a s₁ U1 R₁ QC=>QC a rfl O Z s₁ _ R₁ K)
theorem Jb{Q:Value->AH->Prop}(hm:ii op r=false)(h:WE C F n l m U λ a U1=>WE C F n r m U1 λ b QB=>iK C F n (a_ op) a b m QB (qe Q)):WE C F n (.Compare l [op] [r] pos) m U Q:=λ O Z s W R K=>
 wpAny_Compare1 (h O Z s _ R λ a s₁ U1 R₁ QC=>QC O Z s₁ _ R₁ λ b s₂ QB R₂ QP=>QP a b rfl rfl O Z s₂ _ R₂ K) hm
theorem Ma{Q:Value->AH->Prop}(h:WT C F n t m U λ c U1=>if c then WE C F n b m U1 Q else WE C F n o m U1 Q):WE C F n (.IfExp t b o pos) m U Q:=λ O Z s W R K=>
 wpAny_IfExp (h O Z s _ R λ c s₁ U1 R₁ QC=>by cases c<;>exact QC O Z s₁ _ R₁ K)
theorem Du{Q:Bool->AH->Prop}(he:∀env Sl,isTrue e env Sl=(do let v<-Sl;ft e.pos;eS [v] (kW v)))(h:WE C F n e m U λ a U1=>WV C F n kW a m U1 Q):WT C F n e m U Q:=λ O Z s W R K=>
 wpAny_isTrue_value (h O Z s _ R λ a s₁ U1 R₁ QC=>QC a rfl O Z s₁ _ R₁ K) (he _ _)
theorem I_{Q:Bool->AH->Prop}(h:WT C F n x m U λ b U1=>Q (!b) U1):WT C F n (.UnaryOp .Not x pos) m U Q:=λ O Z s W R K=>
 wpAny_isTrue_Not (h O Z s _ R λ b=>K !b)
noncomputable def WA(C:Cx)(F:c_)(n:Nat)(op:BoolOp)(es:List Expr)(m:Str->Option Value)(U:AH)(Q:Bool->AH->Prop):Prop:=
 F.Ok C n->∀Z s W,cj C F Z s m U->(∀v s U,cj C F Z s m U->Q v U->W v s)->br (bL C.prog C.w) F.A (allTrue op es F.env) W (λ V V=>False) s
theorem Gh{Q:Bool->AH->Prop}(h:WA C F n op es m U Q):WT C F n (.BoolOp op es pos) m U Q:=λ O Z s W R K=>wpAny_isTrue_BoolOp (h O Z s _ R K)
theorem xE{Q:Bool->AH->Prop}(h:Q true U):WA C F n .And [] m U Q:=λ O Z s W R K=>wpAny_allTrue_And_nil (K _ _ _ R h)
theorem Aw{Q:Bool->AH->Prop}(h:Q false U):WA C F n .Or [] m U Q:=λ O Z s W R K=>wpAny_allTrue_Or_nil (K _ _ _ R h)
theorem Jc{Q:Bool->AH->Prop}(h:WT C F n e m U λ b U1=>if b then WA C F n .And es m U1 Q else Q false U1):WA C F n .And (e::es) m U Q:=λ O Z s W R K=>by
 refine wpAny_allTrue_And_cons (h O Z s _ R λ b s₁ U1 R₁ QC=>?_)
 cases b with
 | true=>exact QC O Z s₁ _ R₁ K
 | false=>exact (K _ _ _ R₁ QC)
theorem Mb{Q:Bool->AH->Prop}(h:WT C F n e m U λ b U1=>if b then Q true U1 else WA C F n .Or es m U1 Q):WA C F n .Or (e::es) m U Q:=λ O Z s W R K=>by
 refine wpAny_allTrue_Or_cons (h O Z s _ R λ b s₁ U1 R₁ QC=>?_)
 cases b with
 | false=>exact QC O Z s₁ _ R₁ K
 | true=>exact (K _ _ _ R₁ QC)
theorem I'{Q:Bool->AH->Prop}(hm:ii op r=false)(h:WE C F n l m U λ a U1=>WE C F n r m U1 λ b QB=>iK C F n (a_ op) a b m QB λ c QG=>WV C F n kW (er c) m QG Q):
  WT C F n (.Compare l [op] [r] pos) m U Q:=λ O Z s W R K=>
 wpAny_isTrue_Compare1 (h O Z s _ R λ a s₁ U1 R₁ QC=>QC O Z s₁ _ R₁ λ b s₂ QB R₂ QP=>QP a b rfl rfl O Z s₂ _ R₂ λ c s₃ QG R₃ Q_=>Q_ c rfl O Z s₃ _ R₃ K) hm
theorem Ig{Q:Value->AH->Prop}(h:Q (vi (i+j)) U):iK C F n (eM .Add) (vi i) (vi j) m U (qe Q):=λ a b ha hb O Z s W R K=>iU ha λ t=>iU hb λ u=>(add_int (K _ _ _ (R.toks O) h))
theorem H_{Q:Value->AH->Prop}(h:Q (vi (i-j)) U):iK C F n (eM .Sub) (vi i) (vi j) m U (qe Q):=λ a b ha hb O Z s W R K=>iU ha λ t=>iU hb λ u=>(sub_int (K _ _ _ (R.toks O) h))
theorem Ib{Q:Value->AH->Prop}(h:Q (vi (-i)) U):WV C F n (JN .USub) (vi i) m U (qe Q):=λ a ha O Z s W R K=>iU ha λ t=>(neg_int (K _ _ _ (R.toks O) h))
theorem IP{Q:Value->AH->Prop}(h:Q (.bool (decide (i<j))) U):iK C F n (a_ .Lt) (vi i) (vi j) m U (qe Q):=λ a b ha hb O Z s W R K=>iU ha λ t=>iU hb λ u=>(lt_int (K _ _ _ R h))
theorem IQ{Q:Value->AH->Prop}(h:Q (.bool (decide (i<=j))) U):iK C F n (a_ .LtE) (vi i) (vi j) m U (qe Q):=λ a b ha hb O Z s W R K=>iU ha λ t=>iU hb λ u=>(le_int (K _ _ _ R h))
theorem IS{Q:Value->AH->Prop}(h:Q (.bool (decide (i>j))) U):iK C F n (a_ .Gt) (vi i) (vi j) m U (qe Q):=λ a b ha hb O Z s W R K=>iU ha λ t=>iU hb λ u=>(gt_int (K _ _ _ R h))
theorem IT{Q:Value->AH->Prop}(h:Q (.bool (decide (i>=j))) U):iK C F n (a_ .GtE) (vi i) (vi j) m U (qe Q):=λ a b ha hb O Z s W R K=>iU ha λ t=>iU hb λ u=>(ge_int (K _ _ _ R h))
theorem IU{Q:Value->AH->Prop}(h:Q (.bool (decide (i=j))) U):iK C F n (a_ .Eq) (vi i) (vi j) m U (qe Q):=λ a b ha hb O Z s W R K=>iU ha λ t=>iU hb λ u=>(eq_int (K _ _ _ R h))
theorem IN{Q:Value->AH->Prop}(h:Q (.bool (decide (i≠j))) U):iK C F n (a_ .NotEq) (vi i) (vi j) m U (qe Q):=λ a b ha hb O Z s W R K=>by
 refine iU ha λ t=>iU hb λ u=>(ne_int (K _ _ _ R ?_))
 have:(i !=j)=decide (i≠j):=by by_cases q:i=j<;>simp [q]
 exact ah this h
theorem yJ{Q:Value->AH->Prop}(h:Q (.bool (i==j)) U):iK C F n (a_ .Eq) (.bool i) (.bool j) m U (qe Q):=λ a b ha hb O Z s W R K=>Ei ha (Ei hb (eq_bool (K _ _ _ R h)))
theorem CO{Q:Value->AH->Prop}(h:Q (.bool false) U):iK C F n (a_ .Eq) .none (.bool j) m U (qe Q):=λ a b ha hb O Z s W R K=>LH ha (Ei hb (EqNone.eq_none_bool (K _ _ _ R h)))
theorem Bh{Q:Bool->AH->Prop}(h:Q i U):WV C F n kW (.bool i) m U Q:=λ a ha O Z s W R K=>Ei ha (JL (K _ _ _ R h))
theorem Dv{Q:fH->(Str->Option Value)->AH->Prop}(h:Q .next m U):WS C F n [] m U Q:=λ O Z s W R K=>vU (K _ _ _ _ R h)
theorem n_{Q:fH->(Str->Option Value)->AH->Prop}(h:W1 C F n b m U λ f Q1 U1=>match f with | .next=>WS C F n r Q1 U1 Q | f=>Q f Q1 U1):WS C F n (b::r) m U Q:=λ O Z s W R K=>
 gT (h O Z s _ R λ f s₁ Q1 U1 R₁ QC=>by cases f<;>first | exact QC O Z s₁ _ R₁ K | exact (K _ _ _ _ R₁ QC))
theorem sH{Q:fH->(Str->Option Value)->AH->Prop}(h:WE C F n e m U λ v U1=>∀v',er v' =v->Q (.ret v') m U1):W1 C F n (.Return (some e) pos) m U Q:=λ O Z s W R K=>
 rK (sN (h O Z s _ R λ v s₁ U1 R₁ QC=>(K _ _ _ _ R₁ (QC v rfl))))
theorem xG{Q:fH->(Str->Option Value)->AH->Prop}(h:Q (.ret .none) m U):W1 C F n (.Return none pos) m U Q:=λ O Z s W R K=>
 wpAny_Return_none (K _ _ _ _ R h)
theorem Mc{Q:fH->(Str->Option Value)->AH->Prop}(h:WT C F n t m U λ c U1=>if c then WS C F n b m U1 Q else WS C F n o m U1 Q):W1 C F n (.If t b o pos) m U Q:=λ O Z s W R K=>
 wpAny_If (sN (h O Z s _ R λ c s₁ U1 R₁ QC=>by cases c<;>exact QC O Z s₁ _ R₁ K))
theorem oU{Q:fH->(Str->Option Value)->AH->Prop}(hs:iE e (some (.Name x p')) pos.line F.env=dG false)(S:Stores F x)(h:WE C F n e m U λ v U1=>Q .next (fe m x v) U1):
  W1 C F n (.Assign [.Name x p'] e pos) m U Q:=λ O Z s W R K=>
 wpAny_Assign_Name (sN (h O Z s _ R λ v s₁ U1 R₁ QC=>ge O R₁ S λ s' R' =>(K _ _ _ _ R' QC))) hs
end
end
section
structure Bk where
 A:dY
 A0:dY
 outer:List Env
 base:fT
 h₀:fT
 L:Addr
noncomputable abbrev Fn(b:Bk)(qual:Str)(scope:Scope)(f:Addr)(cdv:Value):c_:=
 {A:=b.A.deeper (DW qual scope b.L f cdv),fenv:=DW qual scope b.L f cdv,env:=DW qual scope b.L f cdv,outer:=b.outer,A0:=b.A0,base:=b.base,h₀:=b.h₀,L:=b.L,oL:=none,cells:=dg (b.L+1) scope.names []}
noncomputable def dQ(h:fT)(as:List Addr):List (Addr×Obj):=as.filterMap λ a=>(h.get? a).map λ o=>(a,o)
theorem bH:p∈dQ h as↔p.1∈as/\h.get? p.1=some p.2:=by
 unfold dQ
 refine io eP ?_
 constructor
 ·intro QI;refine aM QI λ a ha e=>?_;clear QI
  refine aM (aQ.mp e) λ o ho QL=>?_;subst QL
  exact ⟨ha,ho⟩
 ·intro QT;refine aU QT λ a b=>?_;clear QT;exact cC p.1 a (ah b rfl)
theorem iD:∀(names:List (Str×dM)) (n lo:Nat) (QD:List (Str×Addr)),(∀x∈QD,lo<=x.2/\x.2<n)->QD.Pairwise (λ x y=>x.2≠y.2)->lo<=n->
  (dg n names QD).Pairwise (λ x y=>x.2≠y.2)/\∀x∈dg n names QD,lo<=x.2
 | [],n,lo,QD,h1,h2,_=>⟨h2,λ x hx=>(h1 x hx).1⟩
 | (nm,k)::r,n,lo,QD,h1,h2,h3=>by
  unfold dg
  refine eH (λ V=>?_) λ V=>?_
  ·refine iD r (n+1) lo _ (λ x hx=>?_) (jN.mpr ⟨λ x hx=>?_,h2⟩) (ac h3 (aB _ _))
   ·rcases aL.mp hx with rfl | hx
    ·exact ⟨h3,bn _⟩
    ·have:=h1 x hx;exact ⟨this.1,ky this.2⟩
   ·have:=h1 x hx;exact gk (bu this.2)
  ·exact iD r n lo QD h1 h2 h3
theorem gh{cm:Str->Option Value}(Y:CellsAre cm cs cells):∀x∈cs,∃o,(x.2,o)∈cells/\o.data=.cell (cm x.1):=by
 induction Y with
 | nil=>intro x hx;cases hx
 | cons hd _ ih=>
  intro x hx
  rcases aL.mp hx with rfl | hx
  ·exact cC _ (.head _) hd
  ·exact aM (ih x hx) λ o a b=>(cC o (.tail _ a) b)
theorem rC{cm:Str->Option Value}(Y:CellsAre cm cs cells):∀p∈cells,∃n,(n,p.1)∈cs:=by
 induction Y with
 | nil=>intro x hx;cases hx
 | cons hd _ ih=>
  intro x hx
  rcases aL.mp hx with rfl | hx
  ·exact ⟨_,.head _⟩
  ·exact aS (ih x hx) λ o a=>⟨o,.tail _ a⟩
noncomputable def hV(x:Str):Bool:=!(x==("__debug__":Str))&& !(x==("__classdict__":Str))
noncomputable def wO(l:List (Str×Value))(m:Str->Option Value):Str->Option Value:=l.foldl (λ m p=>fe m p.1 p.2) m
theorem qO(k:Str->Option dM):∀(binds:List (Str×Value)) (m mc QD:Str->Option Value),
  (∀x v,QD x=some v->hV x=true/\∃cv,er cv=v/\((k x=some .local/\m x=some cv)\/(k x=some .cell/\mc x=some cv)))->
  (∀p∈binds,hV p.1=true/\(k p.1=some .local\/k p.1=some .cell))->
  ∀x v,wO (binds.map λ p=>(p.1,er p.2)) QD x=some v->hV x=true/\∃cv,er cv=v/\((k x=some .local/\bindL k binds m x=some cv)\/(k x=some .cell/\bindC k binds mc x=some cv))
 | [],m,mc,QD,h,_=>h
 | (nm,v0)::r,m,mc,QD,h,hb=>by
  intro x v hx
  refine qO k r _ _ (fe QD nm (er v0)) ?_ (λ p hp=>hb p (.tail _ hp)) x v hx
  intro y w hy
  (try clear hx);refine aU (hb _ (.head _)) λ on kn=>?_
  unfold fe at hy
  split at hy
  ·rename_i e;clear hb;subst e;have QW:=sI hy;clear hy;subst QW
   refine ⟨on,v0,rfl,?_⟩
   rcases kn with kn | kn
   ·exact .inl ⟨kn,by simp at kn;simp [kn]⟩
   ·exact .inr ⟨kn,by simp at kn;simp [kn]⟩
  ·rename_i e
   obtain ⟨a,cv,b,c⟩:=h y w hy
   refine ⟨a,cv,b,?_⟩
   rcases c with ⟨c,d⟩ | ⟨c,d⟩
   ·refine .inl ⟨c,?_⟩;refine eH (λ V=>?_) λ V=>?_<;>simp [e,d]
   ·refine .inr ⟨c,?_⟩;refine eH (λ V=>?_) λ V=>?_<;>simp [e,d]
section
variable{C:Cx}{F:c_}{n:Nat}{m:Str->Option Value}{U:AH}{Z:List (Addr×Obj)}{s:aE}
theorem c_.Ok.withA(O:F.Ok C n)(h1:A'.frames=F.A.frames)(h2:A'.handled=none)(h3:A'.depth+3*k<=F.A.depth+3*n)(h4:A'.units+10*k<=F.A.units+10*n):
  c_.Ok C k {F with A:=A',exc:=λ V V=>False}:=
 ⟨O.B,h1.trans O.hA,O.hf,O.hk,O.G,O.ek,O.eg,O.eb,O.el,O.ei,h2,O.capart,O.cloc,O.csub,O.cok,by have:=O.depth;exact ((au h3 this):A'.depth+3*k<_),by have:=O.units;exact ((au h4 this):A'.units+10*k<_),qz⟩
theorem cj.withA(R:cj C F Z s m U):cj C {F with A:=A',exc:=λ V V=>False} Z s m U:=⟨R.core,R.fr,R.inn,R.loc,R.var,R.cel,R.own,R.zz,R.sg,R.sm⟩
theorem cj.unA(R:cj C {F with A:=A',exc:=λ V V=>False} Z s m U):cj C F Z s m U:=⟨R.core,R.fr,R.inn,R.loc,R.var,R.cel,R.own,R.zz,R.sg,R.sm⟩
theorem u2{α:Type}{vs:List α}(h:vs.length=1):∃a,vs=[a]:=lD.mp h
theorem j9{α:Type}{vs:List α}(h:vs.length=2):∃a b,vs=[a,b]:=by
 cases vs with
 | nil=>cases h
 | cons a r=>refine aS (u2 (iR h)) λ b QY=>?_;subst QY;exact yD a b rfl
theorem B6{α:Type}{vs:List α}(h:vs.length=3):∃a b c,vs=[a,b,c]:=by
 cases vs with
 | nil=>cases h
 | cons a r=>refine fg (j9 (iR h)) λ b c Rb=>?_;subst Rb;exact yC a b c rfl
theorem Im{α:Type}{vs:List α}(h:vs.length=4):∃a b c d,vs=[a,b,c,d]:=by
 cases vs with
 | nil=>cases h
 | cons a r=>refine lh (B6 (iR h)) λ b c d Q8=>?_;subst Q8;exact LI a b c d rfl
theorem No{α:Type}{vs:List α}(h:vs.length=5):∃a b c d e,vs=[a,b,c,d,e]:=by
 cases vs with
 | nil=>cases h
 | cons a r=>refine vf (Im (iR h)) λ b c d e Q8=>?_;subst Q8;exact ⟨a,b,c,d,e,rfl⟩
theorem DH{names:List Str}{Q:Value->AH->Prop}
  (ho:C.K.lookup f=some ⟨oc,od,.func (Qa name qual params body scope dV kV Sd pm an cdv ct),Um⟩) (Rz:OJ C.K cdv qual=true)
  (hlen:args.length=names.length)
  (Rl:∀vs:List Value,vs.length=names.length->GE (Qa name qual params body scope dV kV Sd pm an cdv ct) ⟨vs,[]⟩=dG (names.zip vs))
  (hkind:∀x∈names,hV x=true/\(scope.names.lookup x=some .local\/scope.names.lookup x=some .cell))
  (hnd:((dg 0 scope.names []).map (·.1)).Nodup) (Tj:∀x∈scope.names,x.2≠ .free)
  (Tz:scope.isCoroutine=false) (RZ:scope.isGenerator=false) (hk:scope.kind=.function)
  (hw:∀b:Bk,WS C (Fn b qual scope f cdv) n body (wO (names.zip args) λ V=>none) U λ fl V U' =>Q (er (match fl with | .ret v=>v | _=> .none)) U'):
  WC C (n+1) f args U Q:=by
 intro F Z s m QE O R Ro
 refine aS R.fr λ mL FR=>?_
 have hlen' :QE.length=names.length:=dI hlen (dI Ro (ah (ae ..) rfl))
 --the ledger
 let own:=dQ s.heap F.ownA
 let sg:=dQ s.heap (U.map (·.1))
 have N:ot F.h₀ F.L s.heap (Z++own++sg):=by
  intro p hp
  rcases aw.mp hp with hp | hp
  ·rcases aw.mp hp with hp | hp
   ·exact fD (R.zz p hp) λ a b c V=>(du a b c)
   ·refine aU (bH.mp hp) λ a b=>(aU (R.own _ a) λ Rc V=>(cu Rc λ V c d=>?_));clear Rc;exact du b c d
  ·refine aU (bH.mp hp) λ a b=>(aS (AH.dom a) λ o e=>(aU (R.sg _ _ e) λ Rp V=>(cu Rp λ V c d=>?_)));clear Rp;exact du b c d
 have hsub:names.zip args=(names.zip QE).map λ p=>(p.1,er p.2):=dI Ro (af gW rfl)
 refine callX_cells (binds:=names.zip QE) O.B FR N O.G.T.nolimit O.hA O.hf O.hk (O.G.X.keeps FR.keep _ _ ho) rfl (rg (O.G.X.keeps FR.keep) Rz) (by have:=O.depth;exact au (aB _ _) this)
  (iF (Rl QE hlen')) ?_ hnd ?_ Tz RZ hk
 ·intro k x hx
  have hxn:x.1∈names:=(ff (a:=x.1) (b:=x.2) hx).1
  rcases (hkind _ hxn).2 with q | q
  ·exact .inl q
  ·exact .inr ⟨q,fN _ _ _ (.inl q)⟩
 intro g L' QC tk cells FG F' N' Y B' st lt
 have SM:=iD scope.names (L' +1) (L' +1) [] (λ V h=>nomatch h) .nil (az _)
 let b:Bk:=⟨F.A,F.A,F.fenv::F.outer,F.base,g,L'⟩
 have O' :(Fn b qual scope f cdv).Ok C n:=by
  refine ⟨B',mR O.hA,rfl,hk,O.G.keeps st,hk,rfl,rfl,λ V=>rfl,(λ h=>nomatch h),O.handled,SM.1,λ x hx=>?_,λ V V h=>h,λ x hx V=>?_,?_,?_,qz⟩
  ·exact gk (bu (SM.2 x hx))
  ·rcases hx with hx | hx
   ·exact bW.mp (fN _ _ _ (.inl hx))
   ·exact absurd rfl (Tj _ (mem_of_lookup hx))
  ·have:=O.depth;refine (?_:F.A.depth+1+3*n<_);exact IA this
  ·have:=O.units;refine (?_:F.A.units+3+10*n<_);exact Iz this
 have cellLt:∀p∈cells,L' <p.1:=λ p hp=>aS (rC Y p hp) λ nm q=>(SM.2 _ q)
 have R' :cj C (Fn b qual scope f cdv) (Z++own) {s with heap:=QC,toks:=tk} (wO (names.zip args) λ V=>none) U:=by
  have NN:∀p∈Z++own++sg,QC.get? p.1=some p.2/\p.1≠L' /\g.get? p.1=none:=λ p hp=>N' p (ai _ hp)
  have NC:∀p∈cells,QC.get? p.1=some p.2/\p.1≠L' /\g.get? p.1=none:=λ p hp=>N' p (ak _ hp)
  have cellOwn:∀a∈(Fn b qual scope f cdv).ownA,∃o,(a,o)∈cells:=by
   intro a ha
   simp only [c_.ownA,nE,bX,if_false,dh] at ha
   refine aM (aJ.mp ha) λ x hx Q7=>?_;subst Q7
   exact aM (gh Y x hx) λ o h V=>⟨o,h⟩
  refine ⟨R.core.upd,⟨_,F'⟩,(λ V h=>nomatch h),⟨_,F'.ns⟩,?_,?_,?_,?_,?_,R.sm⟩
  ·intro x v hx
   replace hx:=hsub▸hx
   obtain ⟨a,cv,e,q⟩:=qO (DW qual scope L' f cdv).kindOf (names.zip QE) (λ V=>none) (λ V=>none) (λ V=>none) (λ V V h=>nomatch h)
    (λ p hp=>hkind _ (ff (a:=p.1) (b:=p.2) hp).1) x v hx
   simp only [hV,dk,b9] at a
   refine ⟨a.1,a.2,cv,e,?_⟩
   rcases q with ⟨k,q⟩ | ⟨k,q⟩
   ·exact .inl ⟨k,_,F'.ns,q⟩
   ·refine .inr ⟨.inl k,?_⟩
    have hs:((dg (L' +1) scope.names []).lookup x).isSome=true:=fN _ _ _ (.inl k)
    exact aS (bW.mp hs) λ c hc=>(aM (gh Y _ (mem_of_lookup hc)) λ o h hd=>⟨c,hc,o,(NC _ h).1,af hd (congrArg _ q)⟩)
  ·intro x hx
   exact aM (gh Y x hx) λ o h hd=>(iI _ o ((NC _ h).1) hd)
  ·intro a ha
   refine aS (cellOwn a ha) λ o h=>(cu (NC _ h) λ h1 h2 h3=>(du ⟨⟨o,h1⟩,h2,h3⟩ ?_ (λ p hp q=>?_)))
   ·cases q:U.get a with
    | none=>rfl
    | some ob=>
     refine aU (R.sg a ob q) λ Rf V=>(aU Rf λ RF V=>?_);clear Rf;obtain ⟨Q6,e⟩:=RF
     exact absurd (bD (lt (a,Q6) (ai _ (bH.mpr ⟨AH.dom' q,e⟩))) (cellLt _ h)) (bP _)
   ·exact absurd (q▸bD (lt p (ak _ hp)) (cellLt _ h)) (bP _)
  ·intro p hp
   refine cu (NN p (ak _ hp)) λ a b c=>(gN a b c ?_)
   rcases aw.mp hp with hp | hp
   ·exact (R.zz p hp).2.2.2
   ·exact (R.own _ (bH.mp hp).1).2.1
  ·intro a o e
   refine aU (R.sg a o e) λ Rd q=>(cu Rd λ RX V V=>?_);clear Rd;obtain ⟨ob,x⟩:=RX
   exact cu (NN (a,ob) (ai _ (bH.mpr ⟨AH.dom' e,x⟩))) λ h1 h2 h3=>⟨⟨⟨ob,h1⟩,h2,h3⟩,q.keep λ o' ho' =>by replace ho' :=x▸ho';clear h2 h3 x;have Rn:=sI ho';clear ho';subst Rn;exact h1⟩
 refine cz (hw b O' _ _ _ R' λ fl s' m' U' Q9 hq=>(aS Q9.fr λ To Te =>?_)) (λ V V q=>q) qz
 let Xr :=dQ s'.heap (U'.map (·.1))
 refine CA L' To (Z++own++Xr) Te ?_ (λ FE NE=>⟨_,U',rfl,?_,hq,λ Xz V8=>ah (fC V8.ns FR.ns) FE⟩)
 ·intro p hp
  rcases aw.mp hp with hp | hp
  ·exact fD (Q9.zz p hp) λ a b c V=>(du a b c)
  ·refine aU (bH.mp hp) λ a b=>(aS (AH.dom a) λ o e=>(aU (Q9.sg _ _ e) λ Rm V=>(cu Rm λ V c d=>?_)));clear Rm;exact du b c d
 ·--back in the caller's frame
  have ownKeep:∀a∈F.ownA,∀o,s.heap.get? a=some o->s'.heap.get? a=some o:=λ a ha o e=>
   (Q9.zz (a,o) (ai _ (bH.mpr ⟨ha,e⟩))).1
  have locKeep:∀ml,s.heap.Ns F.env.locals ml->s'.heap.Ns F.env.locals ml:=λ ml h=>by
   cases hl:F.oL with
   | none=>
    have e:=O.el hl
    rw [e] at h⊢
    exact ah (fC h FR.ns) FE.ns
   | some o=>exact d4 h λ ob e=>ownKeep _ (by simp [c_.ownA,hl]) ob e
  refine ⟨Q9.core,⟨mL,FE⟩,λ ml e=>?_,?_,λ x v hx=>?_,λ x hx=>?_,λ a ha=>?_,λ p hp=>?_,λ a o e=>?_,Q9.sm⟩
  ·exact ah (fC (R.inn ml e) FR.ns) FE.ns
  ·exact aS R.loc λ ml h=>⟨ml,locKeep ml h⟩
  ·obtain ⟨a,a',cv,e,q⟩:=R.var x v hx
   refine ⟨a,a',cv,e,?_⟩
   rcases q with ⟨k,ml,hm,hv⟩ | ⟨k,c,hc,hv⟩
   ·exact .inl ⟨k,ml,locKeep ml hm,hv⟩
   ·exact .inr ⟨k,c,hc,cQ hv λ o e=>ownKeep _ (by simp [c_.ownA];exact .inl ⟨_,mem_of_lookup hc⟩) o e⟩
  ·exact aS (R.cel x hx) λ cv h=>⟨cv,cQ h λ o e=>ownKeep _ (by simp [c_.ownA];exact .inl ⟨_,hx⟩) o e⟩
  ·refine cu (R.own a ha) λ RA b c=>(cu RA λ RW l2 l3=>?_);clear RA;obtain ⟨o,ho⟩:=RW
   exact du ⟨⟨o,ownKeep a ha o ho⟩,l2,l3⟩ ((Q9.zz (a,o) (ai _ (bH.mpr ⟨ha,ho⟩))).2.2.2) c
  ·exact fD (Q9.zz p (ak _ hp)) λ a b c d=>(fD (R.zz p hp) λ V b' c' V=>(gN a b' c' d))
  ·refine aU (Q9.sg a o e) λ RN q=>(cu RN λ RV V V=>?_);clear RN;obtain ⟨ob,x⟩:=RV
   exact cu (NE (a,ob) (ai _ (bH.mpr ⟨AH.dom' e,x⟩))) λ V h2 h3=>⟨⟨⟨ob,x⟩,h2,h3⟩,q⟩
end
end
section
section
variable{C:Cx}{F:c_}{n:Nat}{m:Str->Option Value}{U U' :AH}{Z:List (Addr×Obj)}{s s' :aE}
noncomputable def um(F:c_)(Z:List (Addr×Obj))(U:AH)(h:fT):List (Addr×Obj):=Z++dQ h F.ownA++dQ h (U.map (·.1))
theorem cj.news(R:cj C F Z s m U):ot F.h₀ F.L s.heap (um F Z U s.heap):=by
 intro p hp
 rcases aw.mp hp with hp | hp
 ·rcases aw.mp hp with hp | hp
  ·exact fD (R.zz p hp) λ a b c V=>(du a b c)
  ·refine aU (bH.mp hp) λ a b=>(aU (R.own _ a) λ QI V=>(cu QI λ V c d=>?_));clear QI;exact du b c d
 ·refine aU (bH.mp hp) λ a b=>(aS (AH.dom a) λ o e=>(aU (R.sg _ _ e) λ QL V=>(cu QL λ V c d=>?_)));clear QL;exact du b c d
theorem cj.back(O:F.Ok C n)(R:cj C F Z s m U){mL:Str->Option Value}(FR:Fr F.h₀ F.L s.heap mL)(c' :l5 C s')(FE:Fr F.h₀ F.L s'.heap mL)(W:Addr->Prop)(hW:∀a,W a->∃o,U.get a=some o)
  (hk:∀p∈um F Z U s.heap,¬W p.1->s'.heap.get? p.1=some p.2)
  (T6:∀a o,U'.get a=some o->(U.get a=some o/\¬W a)\/((W a\/((∀p∈um F Z U s.heap,p.1≠a)/\3<a))/\rH F s'.heap a/\At C s'.heap a o)):cj C F Z s' m U' :=by
 have offO:∀a∈F.ownA,¬W a:=λ a ha h=>by refine aS (hW _ h) λ o e=>?_;replace e:=(R.own a ha).2.1▸e;exact (bw e).elim
 have offZ:∀p∈Z,¬W p.1:=λ p hp h=>by refine aS (hW _ h) λ o e=>?_;replace e:=(R.zz p hp).2.2.2▸e;exact (bw e).elim
 have ownKeep:∀a∈F.ownA,∀o,s.heap.get? a=some o->s'.heap.get? a=some o:=λ a ha o e=>
  hk (a,o) (ak _ (ai _ (bH.mpr ⟨ha,e⟩))) (offO a ha)
 have locKeep:∀ml,s.heap.Ns F.env.locals ml->s'.heap.Ns F.env.locals ml:=λ ml h=>by
  cases hl:F.oL with
  | none=>
   have e:=O.el hl
   rw [e] at h⊢
   exact ah (fC h FR.ns) FE.ns
  | some o=>exact d4 h λ ob e=>ownKeep _ (by simp [c_.ownA,hl]) ob e
 have none' :∀a,U.get a=none->(∃p∈um F Z U s.heap,p.1=a)->U'.get a=none:=λ a ha QT=>by
  refine aM QT λ p hp XU=>?_;clear QT
  cases q:U'.get a with
  | none=>rfl
  | some o=>
   rcases T6 a o q with h | ⟨h | h,_⟩
   ·replace h:=ha▸h;cases h.1
   ·refine aS (hW _ h) λ o e=>?_;replace e:=ha▸e;exact (bw e).elim
   ·exact absurd XU (h.1 p hp)
 refine ⟨c',⟨mL,FE⟩,λ ml e=>?_,?_,λ x v hx=>?_,λ x hx=>?_,λ a ha=>?_,λ p hp=>?_,λ a o e=>?_,λ a o e=>?_⟩
 ·exact ah (fC (R.inn ml e) FR.ns) FE.ns
 ·exact aS R.loc λ ml h=>⟨ml,locKeep ml h⟩
 ·obtain ⟨a,a',cv,e,q⟩:=R.var x v hx
  refine ⟨a,a',cv,e,?_⟩
  rcases q with ⟨k,ml,hm,hv⟩ | ⟨k,c,hc,hv⟩
  ·exact .inl ⟨k,ml,locKeep ml hm,hv⟩
  ·exact .inr ⟨k,c,hc,cQ hv λ o e=>ownKeep _ (by simp [c_.ownA];exact .inl ⟨_,mem_of_lookup hc⟩) o e⟩
 ·exact aS (R.cel x hx) λ cv h=>⟨cv,cQ h λ o e=>ownKeep _ (by simp [c_.ownA];exact .inl ⟨_,hx⟩) o e⟩
 ·refine cu (R.own a ha) λ QW b c=>(cu QW λ Rf l2 l3=>?_);clear QW;obtain ⟨o,ho⟩:=Rf
  exact du ⟨⟨o,ownKeep a ha o ho⟩,l2,l3⟩ (none' a b ⟨(a,o),ak _ (ai _ (bH.mpr ⟨ha,ho⟩)),rfl⟩) c
 ·refine fD (R.zz p hp) λ a b c d=>?_
  have hm:p∈um F Z U s.heap:=ak _ (ak _ hp)
  exact gN (hk p hm (offZ p hp)) b c (none' _ d ⟨p,hm,rfl⟩)
 ·rcases T6 a o e with ⟨h,hw⟩ | ⟨_,hl,ha⟩
  ·refine aU (R.sg a o h) λ QY d=>(cu QY λ Rd b c=>?_);clear QY;obtain ⟨ob,x⟩:=Rd
   have hx:=hk (a,ob) (ai _ (bH.mpr ⟨AH.dom' h,x⟩)) hw
   exact ⟨⟨⟨ob,hx⟩,b,c⟩,d.keep λ o' ho' =>by replace ho' :=x▸ho';(try clear x);have Rb:=sI ho';clear ho';subst Rb;exact hx⟩
  ·exact ⟨hl,ha⟩
 ·rcases T6 a o e with ⟨h,_⟩ | ⟨h | h,_⟩
  ·exact R.sm a o h
  ·exact aS (hW _ h) λ o e=>(R.sm _ _ e)
  ·exact h.2
theorem cj.turn(O:F.Ok C n)(R:cj C F Z s m U)(hg:U.get a=some ao)(ho:s.heap.get? a=some ob):
  ∃mL rest,Fr F.h₀ F.L s.heap mL/\ot F.h₀ F.L s.heap ((a,ob)::rest)/\(∀p∈rest,p.1≠a)/\
   (∀s',l5 C s' ->Fr F.h₀ F.L s'.heap mL->∀Q6 V6,ot F.h₀ F.L s'.heap ((a,Q6)::rest)->At C s'.heap a V6 ->cj C F Z s' m (U.put a V6)):=by
 refine aS R.fr λ mL FR=>(pn mL ((um F Z U s.heap).filter (λ p=>p.1 !=a)) FR ?_ ?_ ?_)
 ·intro p hp
  rcases aL.mp hp with rfl | hp
  ·refine aU (R.sg _ _ hg) λ Q8 V=>(cu Q8 λ V b c=>?_);clear Q8;exact du ho b c
  ·exact R.news p (bE.mp hp).1
 ·intro p hp;simpa using (bE.mp hp).2
 ·intro s' c' FE Q6 V6 NE ha
  refine R.back O FR c' FE (λ b=>b=a) (λ b e=>e▸⟨_,hg⟩) (λ p hp hw=>(NE p (.tail _ (bE.mpr ⟨hp,by simpa using hw⟩))).1) λ b o e=>?_
  replace e:=(AH.get_put ..)▸e
  split at e
  ·rename_i h;clear hg ho;subst h;have Rc:=sI e;clear e;subst Rc
   exact cu (NE (b,Q6) (.head _)) λ x y z=>(.inr ⟨.inl rfl,⟨⟨_,x⟩,y,z⟩,ha⟩)
  ·rename_i h;exact .inl ⟨e,h⟩
noncomputable def je:List (Str×Value)->Str->Value->List (Str×Value)
 | [],x,v=>[(x,v)]
 | (y,w)::r,x,v=>if y=x then (y,v)::r else (y,w)::je r x v
theorem yl(y:Str)(w:Value)(r:List (Str×Value))(x:Str)(v:Value):je ((y,w)::r) x v=if y=x then (y,v)::r else (y,w)::je r x v:=rfl
theorem sj:(Value.str k t).isStr x=decide (k=x):=by
 refine (?_:(k==x)=_)
 by_cases h:k=x<;>simp [h]
noncomputable def nsLook(x:Str):List (Str×Value)->Option Value
 | []=>none
 | (y,w)::r=>if y=x then some w else nsLook x r
theorem BU(x y:Str)(w:Value)(r:List (Str×Value)):nsLook x ((y,w)::r)=if y=x then some w else nsLook x r:=rfl
theorem oV.norefs(h:oV C es fs):es.any (·.refKey)=false:=by
 induction h with
 | nil=>rfl
 | cons hk _ _ _ ih=>
  refine aS hk λ t e=>?_;clear hk
  refine af uu (ah ih ?_)
  unfold Qj
  exact ah e rfl
theorem oV.getL(h:oV C es fs)(x:Str):
  match nsLook x fs with | some v=>∃cv,er cv=v/\t_ x es=some (some cv) | none=>t_ x es=some none:=by
 have hr:=h.norefs
 unfold t_
 refine ah hr ?_
 simp only [bX,if_false]
 clear hr
 induction h with
 | nil=>rfl
 | @cons e f es fs hk hh hv _ ih=>
  refine aS hk λ t ek=>?_;clear hk
  obtain ⟨y,w⟩:=f
  simp only at ek hv
  refine ah (BU ..) (ah ma ?_)
  simp only [ek,sj]
  by_cases q:y=x
  ·simp only [q,decide_true,if_true]
   exact cC _ hv rfl
  ·simp only [q,decide_false,if_false];exact ih
theorem oV.put(h:oV C es fs)(x:Str)(t:Tok)(v:Value):oV C (putL x (rm C.w.params x) (.str x t) v es) (je fs x (er v)):=by
 induction h with
 | nil=>exact .cons ⟨t,rfl⟩ rfl rfl .nil
 | @cons e f es fs hk hh hv hr ih=>
  refine aS hk λ t' ek=>?_;clear hk
  obtain ⟨y,w⟩:=f
  simp only at ek hv hh
  unfold putL
  refine ah (yl ..) ?_
  simp only [ek,sj]
  by_cases q:y=x
  ·simp only [q,decide_true,if_true]
   exact .cons ⟨t',dI q rfl⟩ (af hh (ah q rfl)) rfl hr
  ·simp only [q,decide_false,if_false,bX];exact .cons ⟨t',ek⟩ hh hv ih
theorem oV.length(h:oV C es fs):es.length=fs.length:=by
 induction h with
 | nil=>rfl
 | cons _ _ _ _ ih=>simp [ih]
theorem s9(fs:List (Str×Value))(x:Str)(v:Value):(je fs x v).length<=fs.length+1:=by
 induction fs with
 | nil=>exact az _
 | cons f r ih=>obtain ⟨y,w⟩:=f;refine ah (yl ..) ?_;refine eH (λ V=>?_) λ V=>?_<;>simp only [bF]<;>lia
structure t9(K:Frag)(Cl:Addr):Prop where
 ga:gu K (.ref Cl) "__getattribute__"=some (some (.builtin "object.__getattribute__"))
 gn:gu K (.ref Cl) "__getattr__"=some none
 hd:hasDictIn K Cl=true
 sa:gu K (.ref Cl) "__setattr__"=some (some (.builtin "object.__setattr__"))
 po:plainOver K Cl=true
structure vS(K:Frag)(Cl:Addr)(name:Str)(f:Addr):Prop where
 at_:gu K (.ref Cl) name=some (some (.ref f))
 fn:isFn K (.ref f)=true
 keep:DT K (.ref f)=true
theorem t9.pg{K:Frag}{Cl:Addr}(h:t9 K Cl)(x:Str):plainGet K Cl x=true:=by
 unfold plainGet
 exact ah h.ga (ah h.gn rfl)
theorem oP(h:oY (er v)=true):oY v=true:=by cases v<;>first | rfl | exact h
theorem kJ{x Cl dx:Addr}(h1:h.get? x=some (DU Cl dx))(h2:h.get? dx=some (Jx es k)):InstAt h x (DU Cl dx) Cl (some (Jx es k)):=⟨h1,rfl,rfl,h2⟩
theorem EM{x Cl dx:Addr}{fs:List (Str×Value)}{Q:Value->AH->Prop}(hx:U.get x=some (.inst Cl dx))(hd:U.get dx=some (.ns fs))(hl:nsLook attr fs=some v)
  (hC:t9 C.K Cl) (hn:gu C.K (.ref Cl) attr=some none) (hv:oY v=true) (h:Q v U):WV C F n (λ o=>rO o attr true) (.ref x) m U (qe Q):=λ a ha O Z s W R K=>by
 refine jz ha (ck ((R.sg _ _ hd).2) λ es k he hes=>?_)
 have hg:=hes.getL attr
 replace hg:=hl▸hg
 (try clear hl);refine aM hg λ cv e Sv =>?_;clear hg
 (try clear hl);subst e
 exact aS R.fr λ mL FR=>(P_ FR O.G.X (kJ (R.sg _ _ hx).2 he) (hC.pg _) hC.hd hn rfl Sv (oP hv) (K _ _ _ (R.toks O) h))
theorem tX{Q:Value->AH->Prop}(he:fF (.Attribute e attr pos) F.env=(do
   let o<-fF e F.env
   ft pos.atName
   let r<-eS [o] (rO o attr true)
   OF e o r
   dG r)) (h:WE C F n e m U λ o U1=>WV C F n (λ o=>rO o attr true) o m U1 (qe Q)):WE C F n (.Attribute e attr pos) m U Q:=λ O Z s W R K=>
 OU (h O Z s _ R λ o s₁ U1 R₁ QC=>QC o rfl O Z s₁ _ R₁ K) he
theorem BD{x Cl dx:Addr}{fs:List (Str×Value)}{E:Value->aE->Prop}{Q:Unit->aE->Prop}(O:F.Ok C n)(R:cj C F Z s m U)(hx:U.get x=some (.inst Cl dx))(hd:U.get dx=some (.ns fs))
  (hC:t9 C.K Cl) (ht:DQ C.K Cl attr=some none) (hz:fs.length<=900) (h:∀s',cj C F Z s' m (U.put dx (.ns (je fs attr (er v))))->Q () s'):br (bL C.prog C.w) F.A (P6 (.ref x) attr v) Q E s:=by
 refine ck ((R.sg _ _ hd).2) λ es k he hes=>(jk (R.turn O hd he) λ mL rest FR N off back=>?_)
 have hg:=hes.getL attr
 refine set_dict FR O.G.X N (kJ (R.sg _ _ hx).2 he) rfl hC.sa hC.po ht hC.hd ?_ rfl (.head off) ?_ λ h' F' N' =>h _ (back _ R.core.upd F' _ _ N' ?_)
 ·split at hg
  ·refine aM hg λ cv V q=>?_;clear hg;exact ah q rfl
  ·exact ah hg rfl
 ·have:=hes.put attr (s.toks+1) v
  refine ah this.length ?_
  have:=s9 fs attr (er v)
  exact Oc this hz
 ·exact iI _ _ ((N' _ (.head _)).1) (hes.put attr _ v)
theorem q0{Q:fH->(Str->Option Value)->AH->Prop}(hs:iE e (some (.Attribute o attr p')) pos.line F.env=dG false)
  (h:WE C F n e m U λ v U1=>WE C F n o m U1 λ ov QB=>∃x Cl dx fs,ov=.ref x/\QB.get x=some (.inst Cl dx)/\QB.get dx=some (.ns fs)/\t9 C.K Cl/\DQ C.K Cl attr=some none/\fs.length<=900/\Q .next m (QB.put dx (.ns (je fs attr v)))):
  W1 C F n (.Assign [.Attribute o attr p'] e pos) m U Q:=λ O Z s W R K=>by
 refine sL (sN (h O Z s _ R λ v s₁ U1 R₁ QC=>sN (QC O Z s₁ _ R₁ λ ov s₂ QB R₂ Q4=>(CC Q4 λ x Cl dx fs e hx hd hC ht hz hq=>?_)))) hs;clear Q4
 exact jz e (BD O R₂ hx hd hC ht hz λ s' R' =>(K _ _ _ _ R' hq))
noncomputable def WL(C:Cx)(F:c_)(n:Nat)(es:List Expr)(m:Str->Option Value)(U:AH)(Q:List Value->AH->Prop):Prop:=
 F.Ok C n->∀Z s pos W,cj C F Z s m U->(∀vs s U,cj C F Z s m U->Q (vs.map er) U->W vs s)->br (bL C.prog C.w) F.A (v9 (eI pos (cO es F.env))) W (λ V V=>False) s
theorem jW{Q:List Value->AH->Prop}(h:Q [] U):WL C F n [] m U Q:=λ O Z s pos W R K=>rL (K _ _ _ R h)
theorem e_{Q:List Value->AH->Prop}(he:∀env,cO (e::es) env=(false,fF e env)::cO es env)(h:WE C F n e m U λ v U1=>WL C F n es m U1 λ vs QB=>Q (v::vs) QB):WL C F n (e::es) m U Q:=λ O Z s pos W R K=>
 rM (h O Z s _ R λ v s₁ U1 R₁ QC=>QC O Z s₁ pos _ R₁ λ vs s₂ QB R₂ QP=>(K _ _ _ R₂ QP)) (he _)
noncomputable def noStar(es:List Expr):Prop:=∀env pos,(eI pos (cO es env)).any (·.1)=false
theorem kO{E:Value->aE->Prop}{Q:Args->aE->Prop}(hp:noStar es)
  (h:br M A (v9 (eI pos (cO es env))) (λ vs s' =>Q ⟨vs,[]⟩ s') E s):br M A (evalArgs f true (eI pos (cO es env)) []) Q E s:=by
 have hp:=hp env pos
 revert h hp
 generalize eI pos (cO es env)=ts
 intro h hp
 match ts,h,hp with
 | [],h,_=>
  have:br M A (v9 ([]:List (Bool×Sem Value))) (λ vs s' =>Q ⟨vs,[]⟩ s') E s:=h
  unfold evalArgs
  exact ((ax (cz h (λ vs s' h' =>(bR (ax (aZ (ax (aZ (aZ h'))))))) λ V V x=>x)):br M A (v9 []>>=_) Q E s)
 | (b,x)::r,h,hp=>
  have:b=false:=by simp at hp;exact hp.1
  (try clear hp);subst this
  exact OI h
theorem callWith_def{E:Value->aE->Prop}{Q:Value->aE->Prop}(hk:DT C.K f=true)(hp:noStar es)
  (h:br (bL C.prog C.w) A (v9 (eI pos (cO es env))) (λ vs s₁=>C.K.In s₁.heap/\br (bL C.prog C.w) A (call f (first++vs)) Q E s₁) E s):br (bL C.prog C.w) A (kZ pos f first (eI pos (cO es env)) []) Q E s:=
 GD (((ah (hp ..) rfl):((eI pos (cO es env)).any (·.1) || false)=false)) (keeps_K hk) (kO hp h)
theorem WC.call{Q:Value->AH->Prop}(h:WC C k f args U Q)(O:F.Ok C k)(R:cj C F Z s m U)(e:QE.map er=args)
  {W:Value->aE->Prop} (K:∀v s U,cj C F Z s m U->Q (er v) U->W v s):br (bL C.prog C.w) F.A (PySem.call (.ref f) QE) W (λ V V=>False) s:=
 kR (f_ (h F Z s m QE O R e) λ r s' Rp=>by obtain ⟨v,U',hr,R',q,_⟩:=Rp;exact by subst hr;exact K _ _ _ R' q)
theorem Gl{Q5 pos:Pos}{Q:Value->AH->Prop}
  (he:fF (.Call (.Attribute o name Q5) args [] pos) F.env=(do
   let ov<-fF o F.env
   ft Q5.atName
   let (f,first)<-eS [ov] (kx ov name pl)
   kZ pos f first (eI pos (cO args F.env)) [])) (hp:noStar args)
  (h:WE C F n o m U λ ov U1=>∃x Cl dx fs f,ov=.ref x/\U1.get x=some (.inst Cl dx)/\U1.get dx=some (.ns fs)/\nsLook name fs=none/\t9 C.K Cl/\vS C.K Cl name f/\
   WL C F n args m U1 λ vs QB=>WC C n f (.ref x::vs) QB Q):WE C F n (.Call (.Attribute o name Q5) args [] pos) m U Q:=λ O Z s W R K=>by
 refine ur (pl:=pl) (h O Z s _ R λ ov s₁ U1 R₁ Q4=>(vf Q4 λ x Cl dx fs Q7=>?_)) he;clear Q4;refine LP Q7 λ f e hx hd hl hC hM hw=>?_;clear Q7
 refine jz e (ck ((R₁.sg _ _ hd).2) λ es k Sk hes=>?_)
 have hg:=hes.getL name
 replace hg:=hl▸hg
 exact aS R₁.fr λ mL FR=>(Qq FR O.G.X (kJ (R₁.sg _ _ hx).2 Sk) (hC.pg _) hM.at_ hM.fn hg (callWith_def hM.keep hp (hw O Z s₁ pos _ R₁ λ vs s₂ QB R₂ hc=>⟨O.G.X.keeps R₂.keep,(hc.call O R₂ rfl K)⟩)))
theorem vN{Q:Value->AH->Prop}(hk:F.env.kindOf x=some .globalImplicit)(hx:oq C.K cX x=some (some (.ref f)))(hd:(x==("__debug__":Str))=false)
  (hf:DT C.K (.ref f)=true) (hp:noStar args) (h:WL C F n args m U λ vs QB=>WC C n f vs QB Q):WE C F n (.Call (.Name x p) args [] pos) m U Q:=λ O Z s W R K=>by
 refine ju (dD O.ek hk (iO (ah O.eg (O.G.T.g.keeps R.keep)) (JO O.G.X O.G.T.g hx) ?_) hd)
 exact callWith_def (first:=[]) hf hp (h O Z s pos _ R λ vs s₂ QB R₂ hc=>⟨O.G.X.keeps R₂.keep,(hc.call O R₂ rfl K)⟩)
noncomputable def WB(C:Cx)(F:c_)(n:Nat)(f:Value)(args:List Value)(m:Str->Option Value)(U:AH)(Q:Value->AH->Prop):Prop:=∀QE,QE.map er=args->WO C F n (call f QE) m U Q
theorem lW{E:Value->aE->Prop}{id:String}{es:List Expr}{Q:Value->aE->Prop}(hp:noStar es)
  (h:br M A (v9 (eI pos (cO es env))) (λ vs s₁=>br M A (call (.builtin id) (first++vs)) Q E s₁) E s):br M A (kZ pos (.builtin id) first (eI pos (cO es env)) []) Q E s:=
 callWith_builtin (hp _ _) (kO hp h)
theorem nr{args:List Expr}{b:String}{Q:Value->AH->Prop}(hk:F.env.kindOf x=some .globalImplicit)(hx:oq C.K cX x=some none)(hb:fu x=some (.builtin b))(hn:x≠ "__name__")(hd:(x==("__debug__":Str))=false)
  (hp:noStar args) (h:WL C F n args m U λ vs QB=>WB C F n (.builtin b) vs m QB (qe Q)):WE C F n (.Call (.Name x p) args [] pos) m U Q:=λ O Z s W R K=>by
 refine ju (dD O.ek hk (iz (ah O.eg (O.G.T.g.keeps R.keep)) (rc O.G.X O.G.T.g hx) (ah O.eb (O.G.T.b.keeps R.keep)) ((O.G.T.builtins x hn).trans hb) ?_) hd)
 exact lW (first:=[]) hp (h O Z s pos _ R λ vs s₂ QB R₂ hc=>hc vs rfl O Z s₂ _ R₂ K)
theorem qY{Q:Value->AH->Prop}(hk:F.env.kindOf x=some .globalImplicit)(hx:oq C.K cX x=some none)(hb:fu x=some (.type b))(hn:x≠ "__name__")(hd:(x==("__debug__":Str))=false)
  (hp:noStar args) (h:WL C F n args m U λ vs QB=>WB C F n (.type b) vs m QB (qe Q)):WE C F n (.Call (.Name x p) args [] pos) m U Q:=λ O Z s W R K=>by
 refine ju (dD O.ek hk (iz (ah O.eg (O.G.T.g.keeps R.keep)) (rc O.G.X O.G.T.g hx) (ah O.eb (O.G.T.b.keeps R.keep)) ((O.G.T.builtins x hn).trans hb) ?_) hd)
 exact M_ (hp _ _) (kO hp (h O Z s pos _ R λ vs s₂ QB R₂ hc=>hc vs rfl O Z s₂ _ R₂ K))
theorem Dz{args:List Expr}{id:String}{Q:Value->AH->Prop}
  (he:fF (.Call (.Attribute o name Q5) args [] pos) F.env=(do
   let ov<-fF o F.env
   ft Q5.atName
   let (f,first)<-eS [ov] (kx ov name pl)
   kZ pos f first (eI pos (cO args F.env)) [])) (hp:noStar args) (slot:Slot "list" name id) (VH:xJ (.builtin id)=dG (.type "method_descriptor"))
  (h:WE C F n o m U λ ov U1=>∃a xs,ov=.ref a/\U1.rd a=some (.list xs)/\WL C F n args m U1 λ vs QB=>WB C F n (.builtin id) (.ref a::vs) m QB (qe Q)):
  WE C F n (.Call (.Attribute o name Q5) args [] pos) m U Q:=λ O Z s W R K=>by
 refine ur (pl:=pl) (h O Z s _ R λ ov s₁ U1 R₁ Q4=>(jl Q4 λ a xs e ha hw=>?_)) he;clear Q4
 exact jz e (ck (R₁.at ha) λ vs k hv V=>(JP (T:="list") ⟨_,hv,rfl⟩ PySem.F.plainAttrs_list slot VH (λ a e=>by cases e;exact cC _ hv rfl) (lW hp (hw O Z s₁ pos _ R₁ λ vs s₂ QB R₂ hc=>hc _ rfl O Z s₂ _ R₂ K))))
theorem DA{args:List Expr}{id:String}{Q:Value->AH->Prop}
  (he:fF (.Call (.Attribute o name Q5) args [] pos) F.env=(do
   let ov<-fF o F.env
   ft Q5.atName
   let (f,first)<-eS [ov] (kx ov name pl)
   kZ pos f first (eI pos (cO args F.env)) [])) (hp:noStar args) (slot:Slot "dict" name id) (VH:xJ (.builtin id)=dG (.type "method_descriptor"))
  (h:WE C F n o m U λ ov U1=>∃a kvs,ov=.ref a/\U1.rd a=some (.dict kvs)/\WL C F n args m U1 λ vs QB=>WB C F n (.builtin id) (.ref a::vs) m QB (qe Q)):
  WE C F n (.Call (.Attribute o name Q5) args [] pos) m U Q:=λ O Z s W R K=>by
 refine ur (pl:=pl) (h O Z s _ R λ ov s₁ U1 R₁ Q4=>(jl Q4 λ a xs e ha hw=>?_)) he;clear Q4
 exact jz e (aM (R₁.at ha) λ vs hv V=>(JP (T:="dict") hv.typeIs PySem.F.plainAttrs_dict slot VH hv.mapOf.noDict (lW hp (hw O Z s₁ pos _ R₁ λ vs s₂ QB R₂ hc=>hc _ rfl O Z s₂ _ R₂ K))))
theorem Gw{Q:fH->(Str->Option Value)->AH->Prop}(hi:GC F.env=false)(hs:iE e none pos.line F.env=dG false)(h:WE C F n e m U λ V U1=>Q .next m U1):W1 C F n (.Expr e pos) m U Q:=λ O Z s W R K=>
 wpAny_Expr_any (sN (h O Z s _ R λ v s₁ U1 R₁ QC=>(K _ _ _ _ R₁ QC))) hi hs
theorem qV(h:l.map er=[a]):∃a',l=[a']/\er a' =a:=by
 cases l with
 | nil=>cases h
 | cons x r=>cases r with
  | nil=>simp at h;exact cC x rfl h
  | cons y r=>simp at h
theorem mY(h:l.map er=[a,b]):∃a' b',l=[a',b']/\er a' =a/\er b' =b:=by
 cases l with
 | nil=>cases h
 | cons x r=>
  simp only [bc,y8] at h
  exact aM (qV h.2) λ b' e hb=>(lc x b' (ah e rfl) h.1 hb)
theorem Hh(h:l.map er=[a,b,c]):∃a' b' c',l=[a',b',c']/\er a' =a/\er b' =b/\er c' =c:=by
 cases l with
 | nil=>cases h
 | cons x r=>
  simp only [bc,y8] at h
  exact jl (mY h.2) λ b' c' e hb hc=>(Cz x b' c' (ah e rfl) h.1 hb hc)
section
variable{P:List Value->Prop}{l:List Value}{a b c:Value}{x y:Addr}{i j:Int}
@[elab_as_elim] theorem L4(h:l.map er=[a])(k:∀a',er a' =a->P [a']):P l:=(qV h).elim λ a' q=>q.1▸k a' q.2
@[elab_as_elim] theorem LZ(h:l.map er=[a,b])(k:∀a' b',er a' =a->er b' =b->P [a',b']):P l:=(mY h).elim λ a' q=>q.elim λ b' q=>q.1▸k a' b' q.2.1 q.2.2
@[elab_as_elim] theorem On(h:l.map er=[a,b,c])(k:∀a' b' c',er a' =a->er b' =b->er c' =c->P [a',b',c']):P l:=(Hh h).elim λ a' q=>q.elim λ b' q=>q.elim λ c' q=>q.1▸k a' b' c' q.2.1 q.2.2.1 q.2.2.2
@[elab_as_elim] theorem aR(h:l.map er=[.ref x])(k:P [.ref x]):P l:=L4 h λ a' e=>jz (P:=λ v=>P [v]) e k
@[elab_as_elim] theorem aI(h:l.map er=[vi i])(k:∀t,P [.int i t]):P l:=L4 h λ a' e=>iU (P:=λ v=>P [v]) e k
@[elab_as_elim] theorem Oo(h:l.map er=[.ref x,b])(k:∀b',er b' =b->P [.ref x,b']):P l:=LZ h λ a' b' e f=>jz (P:=λ v=>P [v,b']) e (k b' f)
@[elab_as_elim] theorem Pb(h:l.map er=[.ref x,.ref y])(k:P [.ref x,.ref y]):P l:=Oo h λ b' f=>jz (P:=λ v=>P [.ref x,v]) f k
@[elab_as_elim] theorem Pc(h:l.map er=[.ref x,vi i])(k:∀t,P [.ref x,.int i t]):P l:=Oo h λ b' f=>iU (P:=λ v=>P [.ref x,v]) f k
@[elab_as_elim] theorem PP(h:l.map er=[vi i,vi j])(k:∀t u,P [.int i t,.int j u]):P l:=LZ h λ a' b' e f=>iU (P:=λ v=>P [v,b']) e λ t=>iU (P:=λ v=>P [.int i t,v]) f (k t)
@[elab_as_elim] theorem I8(h:l.map er=[.ref x,vi i,c])(k:∀t c',er c' =c->P [.ref x,.int i t,c']):P l:=On h λ a' b' c' e f g=>jz (P:=λ v=>P [v,b',c']) e (iU (P:=λ v=>P [.ref x,v,c']) f λ t=>k t c' g)
end
theorem dw{vs xs:List Value}(h:vs.map er=xs):vs.length=xs.length:=dI h (ah (ae ..) rfl)
theorem ke{Q:Value->AH->Prop}(ha:U.get a=some (.list xs))(hz:xs.length<=10000000)(h:Q .none (U.put a (.list (xs++[v])))):WB C F n (.builtin "list.append") [.ref a,v] m U (qe Q):=λ QE e O Z s W R K=>by
 refine Oo e λ v' e2=>(ck ((R.sg _ _ ha).2) λ vs k hv hx=>(append_at (hsz:=?_) hv λ h' hs ho=>(K _ _ _ (R.set O R.core.upd ha (λ b o nb e=>(hs.2 b nb).trans e) (o:=.list (xs++[v])) ⟨vs++[v'],k+1,?_,?_⟩) h)))
 ·refine ((af ho ?_):h'.get? a=_);simp
 ·exact af aD (ah hx (ah bc (ah pG (ah e2 rfl))))
 ·have:=dw hx
  exact ah bo (ah cB (ac (aC this) (ac hz (aj _ _))))
end
end
section
noncomputable abbrev ig{K:Type}[DecidableEq K](kvs:List (K×Value))(k:K):Option Value:=dn kvs k
theorem eY{K:Type}[DecidableEq K](f:Value->Value)(kvs:List (K×Value))(k:K):dn (kvs.map λ p=>(p.1,f p.2)) k=(dn kvs k).map f:=by
 unfold dn
 exact ah List.find?_map (af (Ep ..) (ah (Ep ..) rfl))
theorem i_{K:Type}[DecidableEq K](f:Value->Value)(kvs:List (K×Value))(k:K)(v:Value):(cW kvs k v).map (λ p=>(p.1,f p.2))=cW (kvs.map λ p=>(p.1,f p.2)) k (f v):=by
 have e:((kvs.map λ p=>(p.1,f p.2)).any λ kv=>decide (kv.1=k))=kvs.any λ kv=>decide (kv.1=k):=af lE rfl
 unfold cW
 rewrite [e]
 split at⊢
 ·refine af bC (ah bC (dF λ p V=>?_))
  simp only [Ee]
  split at⊢<;>rfl
 ·exact af aD rfl
theorem o9{K:Type}[DecidableEq K](f:Value->Value)(kvs:List (K×Value))(k:K):(jA kvs k).map (λ p=>(p.1,f p.2))=jA (kvs.map λ p=>(p.1,f p.2)) k:=by
 unfold jA
 exact ah i9 rfl
theorem lb(C:Cx)(k:Int)(t:Tok):(eR C.prog C.w).is k (.int k t)=true:=by refine (?_:(k==k)=true);simp
theorem yd(C:Cx)(k:Str)(t:Tok):(strKind C.prog C.w).is k (.str k t)=true:=strKind_is C.prog C.w k t
section
variable{prog:Program}{w:nD}{A:dY}{E:Value->aE->Prop}{s:aE}{K:Type}[DecidableEq K]{knd:KeyKind prog w K}
theorem lR{key dflt:Value}{Q:Value->aE->Prop}(hkey:knd.is k key=true)(hm:s.heap.DictOf knd d kvs)
  (Sb:∀v,dn kvs k=some v->Q v {s with toks:=s.toks+1})
  (hnew:dn kvs k=none->∀h',h'.DictOf knd d (cW kvs k dflt)->gx d s.heap h' ->Q dflt {s with heap:=h',toks:=s.toks+1})
  (hsz:kvs.length<=sizeLine):br (bL prog w) A (xO d key dflt) Q E s:=by
 refine LO hm λ o es ep ho hc hd hk hp hn=>?_;clear hm
 have hes:es.size<=sizeLine:=by
  have e1:=hp.length
  have e2:es.toList.length=es.size:=by simp
  exact ac (aC e1) hsz
 have hfind:∀x,(es.find? λ e=>knd.is x e.key).map (·.val)=dn kvs x:=λ x=>by
  refine dI (hp.find x) ?_;obtain ⟨l⟩:=es;simp
 have hidx:(es.findIdx? λ e=>knd.is k e.key)=kvs.findIdx? λ kv=>decide (kv.1=k):=by
  refine dI (hp.findIdx k) ?_;obtain ⟨l⟩:=es;simp
 unfold xO
 try with_reducible refine bR ?_
 refine ax (knd.pyHash hkey (ax (wpAny_dictFind_of (s:={s with toks:=s.toks+1}) hkey ho hd hk ?_)))
 cases hi:es.findIdx? λ e=>knd.is k e.key with
 | some i=>
  have hl:(es.toList.findIdx? λ e=>knd.is k e.key)=some i:=by refine dI hi ?_;obtain ⟨l⟩:=es;simp
  refine c9 (hp.at hl) λ e he Zn Ye=>(ax (wpAny_dictEntries (s:={s with toks:=s.toks+1}) ho hd ?_))
  have he' :es[i]? =some e:=Bi mh he
  exact ah he' (ax (nv (aZ (Sb e.val Ye))))
 | none=>
  have hnot:k∉kvs.map (·.1):=not_mem_of_findIdx_none (hidx▸hi)
  have hany:¬(kvs.any λ kv=>decide (kv.1=k))=true:=by
   refine io dj ?_;intro QI;refine aM QI λ kv hkv he=>?_;clear QI
   exact hnot (aJ.mpr ⟨kv,hkv,of_decide_eq_true he⟩)
  have hv:dn kvs k=none:=by
   unfold dn
   exact ah (List.find?_eq_none.mpr (λ kv hkv q=>hnot (aJ.mpr ⟨kv,hkv,of_decide_eq_true q⟩))) rfl
  refine ax (nv (ax (wpAny_updateDictKeys (hz:=hes) (s:={s with toks:=s.toks+1}) ho hd (aZ (hnew hv _ ⟨_,_,ep+1,mQ _ ho (Obj.isFreed_of_dict (AF hd _)),
   hc.mapDictKeys _,AF hd _,hk.push hkey _,?_,?_⟩ (Nd ..))))))
  ·rewrite [cW];refine ah (if_neg hany) ?_
   have:=hp.append hkey (knd.hash k) dflt
   obtain ⟨l⟩:=es
   simpa using this
  ·rewrite [cW];refine ah (if_neg hany) (ah aD (io c8 (du hn (by simp) ?_)))
   intro a ha b hb
   simp only [bc,pG,al] at hb
   clear hany hi hidx hkey hnew Sb hv;subst hb
   exact λ e=>hnot (e▸ha)
theorem pO{key dflt:Value}{Q:Value->aE->Prop}(hkey:knd.is k key=true)(hd:(d==kX)=false)(hm:s.heap.DictOf knd d kvs)
  (Sb:∀v,dn kvs k=some v->Q v {s with toks:=s.toks+1})
  (hnew:dn kvs k=none->∀h',h'.DictOf knd d (cW kvs k dflt)->gx d s.heap h' ->Q dflt {s with heap:=h',toks:=s.toks+1})
  (hsz:kvs.length<=sizeLine):br (bL prog w) A (call (.builtin "dict.setdefault") [.ref d,key,dflt]) Q E s:=by
 refine kj (T:="dict") pV hm.typeIs PySem.F.entry_dict_setdefault (PySem.F.args_dict_setdefault_3 _ _ _)
  (S:=λ V R s=>∃kvs,s.heap.DictOf knd d kvs/\kvs.length<=sizeLine/\(∀v,dn kvs k=some v->R (.ok (.ret v)) {s with toks:=s.toks+1})/\
   (dn kvs k=none->∀h',h'.DictOf knd d (cW kvs k dflt)->gx d s.heap h' ->R (.ok (.ret dflt)) {s with heap:=h',toks:=s.toks+1}))
  (.of_wp λ A R s ⟨kvs,hm,hz,h1,h2⟩=>?_) ⟨kvs,hm,hsz,Sb,hnew⟩
 unfold fM.«dict.setdefault»
 refine ax ?_
 unfold oz
 refine ax (oo hm.typeIs (((aZ (((ah (if_neg (by exact ah hd dK)) ?_):br _ _ (if (d==kX)=true then _ else (xO d key dflt>>=_)) _ _ s))):br _ _ (dG (d,key,some dflt)) _ _ s)))
 exact ax (lR hkey hm (λ v hv=>aZ ⟨v,rfl,h1 v hv⟩) (λ hn h' Ry hs' =>aZ ⟨dflt,rfl,h2 hn h' Ry hs'⟩) hz)
theorem lV{Q:Value->aE->Prop}(hkey:knd.is k key=true)(hrest:rest=[]\/∃dflt,rest=[dflt])(Th:(keyPart key).isSome=true)(hm:s.heap.DictOf knd d kvs)
  (hv:dn kvs k=some v) (hQ:∀h',h'.DictOf knd d (jA kvs k)->gx d s.heap h' ->Q v {s with heap:=h',toks:=s.toks+1})
  (hsz:kvs.length<=sizeLine):br (bL prog w) A (call (.builtin "dict.pop") (.ref d::key::rest)) Q E s:=
 kj (T:="dict") lw hm.typeIs ua (by rcases hrest with rfl | ⟨_,rfl⟩;exact PySem.F.args_dict_pop_2 _ _;exact sM _ _ _)
  (meets_dict_pop_there knd d hkey rest hrest Th) ⟨kvs,v,hm,hsz,hv,hQ⟩
theorem rD{key dflt:Value}{Q:Value->aE->Prop}(hkey:knd.is k key=true)(hdm:(d==kX)=false)(Th:(keyPart key).isSome=true)(hm:s.heap.DictOf knd d kvs)
  (hv:dn kvs k=none) (hQ:∀tk,Q dflt {s with toks:=tk}):br (bL prog w) A (call (.builtin "dict.pop") [.ref d,key,dflt]) Q E s:=by
 refine kj (T:="dict") lw hm.typeIs ua (sM _ _ _)
  (S:=λ V R s=>∃kvs,s.heap.DictOf knd d kvs/\dn kvs k=none/\∀tk,R (.ok (.ret dflt)) {s with toks:=tk}) (.of_wp λ A R s ⟨kvs,hm,hv,h⟩=>?_) ⟨kvs,hm,hv,hQ⟩
 unfold fM.«dict.pop»
 refine ax ?_
 unfold oz
 refine ax (oo hm.typeIs (((aZ ?_):br _ _ (dG (d,key,some dflt)) _ _ s)))
 simp only [Th,if_true]
 refine ax (aZ ?_)
 simp only [bX,if_false]
 refine ax (wpAny_takeOut_pairs_none hkey hm hv ?_)
 simp only [Option.isNone_none,if_true]
 exact ax (wpAny_missedRemoval_other hdm (ax (nv (aZ ⟨dflt,rfl,h _⟩))))
end
section
variable{C:Cx}{F:c_}{n:Nat}{m:Str->Option Value}{U U' :AH}{Z:List (Addr×Obj)}{s s' :aE}
theorem cj.size_none(R:cj C F Z s m U):s.heap.get? s.heap.objs.size=none:=by
 cases q:s.heap.get? s.heap.objs.size with
 | none=>rfl
 | some o=>exact absurd (bz q) (bP _)
theorem cj.push(O:F.Ok C n)(R:cj C F Z s m U)(ha:At C (s.heap.push o) s.heap.objs.size ao):
  cj C F Z {s with heap:=s.heap.push o,toks:=tk} m (U.put s.heap.objs.size ao)/\U.get s.heap.objs.size=none:=
 ⟨R.new O R.core.upd (λ V V e=>aW _ e) R.size_none (R.top O) ha,R.fresh R.size_none⟩
theorem F_{h:fT}{vs xs:List Value}(e:vs.map er=xs):At C (h.push (listOf vs.toArray 0)) h.objs.size (.list xs):=⟨vs,0,cf _ rfl,e⟩
theorem xA{h:fT}{vs xs:List Value}(e:vs.map er=xs):At C (h.push (wu vs.toArray 0)) h.objs.size (.tup xs):=⟨vs,0,cf _ rfl,e⟩
theorem FT{Q:Value->AH->Prop}(hd:U.rd d=some (.dict kvs))(h:Q ((ig kvs k).getD .none) U):WB C F n (.builtin "dict.get") [.ref d,vi k] m U (qe Q):=λ QE e O Z s W R K=>by
 refine Pc e λ t=>(aM (R.at hd) λ QK hm hx=>(kj lx hm.typeIs ub (PySem.F.args_dict_get_2 _ _) (meets_dict_get (eR C.prog C.w) d (lb C k t) ?_) ⟨_,hm.mapOf,K _ _ _ (R.toks O) ?_⟩))
 ·rcases AH.rd_get hd with q | ⟨_,q⟩<;>exact R.notSys q
 ·refine (?_:Q (er _) U)
  replace h:=dE hx▸h
  unfold ig at h
  replace h:=eY er QK k▸h
  cases q:dn QK k with
  | none=>replace h:=q▸h;exact h
  | some v=>replace h:=q▸h;exact h
theorem yO{Q:Value->AH->Prop}(hd:U.rd d=some (.dict kvs))(h:Q ((ig kvs k).getD dv) U):WB C F n (.builtin "dict.get") [.ref d,vi k,dv] m U (qe Q):=λ QE e O Z s W R K=>by
 refine I8 e λ t w' e3=>(aM (R.at hd) λ QK hm hx=>(kj lx hm.typeIs ub (PySem.F.args_dict_get_3 _ _ _) (meets_dict_get_default (eR C.prog C.w) d (lb C k t) ?_ w') ⟨_,hm.mapOf,K _ _ _ (R.toks O) ?_⟩))
 ·rcases AH.rd_get hd with q | ⟨_,q⟩<;>exact R.notSys q
 ·refine (?_:Q (er _) U)
  replace h:=dE hx▸h
  unfold ig at h
  replace h:=eY er QK k▸h
  cases q:dn QK k with
  | none=>replace h:=q▸h;exact e3▸h
  | some v=>replace h:=q▸h;exact h
theorem mX{Q:Value->AH->Prop}(hd:U.get d=some (.dict kvs))(hz:kvs.length<=10000000)
  (h:match ig kvs k with | some v=>Q v U | none=>Q dv (U.put d (.dict (cW kvs k dv)))):WB C F n (.builtin "dict.setdefault") [.ref d,vi k,dv] m U (qe Q):=λ QE e O Z s W R K=>by
 refine I8 e λ t w' e3=>(aM ((R.sg _ _ hd).2) λ QK hm hx=>?_)
 have hv:ig kvs k=(dn QK k).map er:=dI hx (eY er QK k)
 have hl:QK.length=kvs.length:=dI hx (ah (ae ..) rfl)
 refine pO (lb C k t) (R.notSys hd) hm (λ v q=>(K _ _ _ (R.toks O) ?_)) (λ q h' Ry hs=>(K _ _ _ (R.set O R.core.upd hd (λ b o nb e=>(hs.2 b nb).trans e) (o:=.dict (cW kvs k dv)) ⟨_,Ry,?_⟩) ?_)) ?_
 ·replace h:=q▸hv▸h;exact h
 ·rewrite [i_ er];exact ah hx (ah e3 rfl)
 ·replace h:=q▸hv▸h;exact ((ah e3 h):Q (er w') _)
 ·exact ah cB (ac (aC hl) (ac hz (aj _ _)))
theorem FP{Q:Value->AH->Prop}(hd:U.get d=some (.dict kvs))(hz:kvs.length<=10000000)
  (h:match ig kvs k with | some v=>Q v (U.put d (.dict (jA kvs k))) | none=>Q dv U):WB C F n (.builtin "dict.pop") [.ref d,vi k,dv] m U (qe Q):=λ QE e O Z s W R K=>by
 refine I8 e λ t w' e3=>(aM ((R.sg _ _ hd).2) λ QK hm hx=>?_)
 have hv:ig kvs k=(dn QK k).map er:=dI hx (eY er QK k)
 have hl:QK.length=kvs.length:=dI hx (ah (ae ..) rfl)
 cases q:dn QK k with
 | none=>
  refine rD (lb C k t) (R.notSys hd) rfl hm q λ tk=>(K _ _ _ (R.toks O) ?_)
  replace h:=q▸hv▸h;exact ((ah e3 h):Q (er w') _)
 | some v=>
  refine lV (rest:=[w']) (lb C k t) (.inr ⟨_,rfl⟩) rfl hm q (λ h' Ry hs=>(K _ _ _ (R.set O R.core.upd hd (λ b o nb e=>(hs.2 b nb).trans e) (o:=.dict (jA kvs k)) ⟨_,Ry,?_⟩) ?_)) ?_
  ·rewrite [o9 er];exact ah hx rfl
  ·replace h:=q▸hv▸h;exact h
  ·exact ah cB (ac (aC hl) (ac hz (aj _ _)))
theorem FQ{Q:Value->AH->Prop}(hd:U.get d=some (.dict kvs))(hz:kvs.length<=10000000)(hk:ig kvs k=some v)
  (h:Q v (U.put d (.dict (jA kvs k)))):WB C F n (.builtin "dict.pop") [.ref d,vi k] m U (qe Q):=λ QE e O Z s W R K=>by
 refine Pc e λ t=>(aM ((R.sg _ _ hd).2) λ QK hm hx=>?_)
 have hv:ig kvs k=(dn QK k).map er:=dI hx (eY er QK k)
 have hl:QK.length=kvs.length:=dI hx (ah (ae ..) rfl)
 replace hv:=hk▸hv
 (try clear hk);cases q:dn QK k with
 | none=>replace hv:=q▸hv;exact (gY hv).elim
 | some v' =>
  replace hv:=q▸hv;(try clear hk);have QL:=sI hv;clear hv;subst QL
  refine lV (rest:=[]) (lb C k t) (.inl rfl) rfl hm q (λ h' Ry hs=>(K _ _ _ (R.set O R.core.upd hd (λ b o nb e=>(hs.2 b nb).trans e) (o:=.dict (jA kvs k)) ⟨_,Ry,?_⟩) h)) ?_
  ·rewrite [o9 er];exact ah hx rfl
  ·exact ah cB (ac (aC hl) (ac hz (aj _ _)))
theorem IR{Q:Value->AH->Prop}(hd:U.rd d=some (.dict kvs))(h:Q (.bool (ig kvs k).isSome) U):iK C F n (a_ .In) (vi k) (.ref d) m U (qe Q):=λ a b ha hb O Z s W R K=>by
 refine iU ha λ t=>(jz hb (aM (R.at hd) λ QK hm hx=>(wpAny_in_of (lb C k t) ?_ hm.mapOf (K _ _ _ (R.toks O) ?_))))
 ·rcases AH.rd_get hd with q | ⟨_,q⟩<;>exact R.notSys q
 ·have hv:ig kvs k=(dn QK k).map er:=dI hx (eY er QK k)
  replace h:=oy▸hv▸h;exact h
theorem z_{Q:Value->AH->Prop}(hd:U.rd d=some (.dict kvs))(h:Q (.bool (!(ig kvs k).isSome)) U):iK C F n (a_ .NotIn) (vi k) (.ref d) m U (qe Q):=λ a b ha hb O Z s W R K=>by
 refine iU ha λ t=>(jz hb (aM (R.at hd) λ QK hm hx=>(wpAny_notIn_of (lb C k t) ?_ hm.mapOf (K _ _ _ (R.toks O) ?_))))
 ·rcases AH.rd_get hd with q | ⟨_,q⟩<;>exact R.notSys q
 ·have hv:ig kvs k=(dn QK k).map er:=dI hx (eY er QK k)
  replace h:=oy▸hv▸h;exact h
noncomputable def WG(C:Cx)(F:c_)(n:Nat)(o i:Value)(m:Str->Option Value)(U:AH)(Q:Value->AH->Prop):Prop:=
 ∀o' i',er o' =o->er i' =i->F.Ok C n->∀Z s W,cj C F Z s m U->(∀v s U,cj C F Z s m U->Q (er v) U->W v s)->∃T id,s.TypeIs o' T/\xK (.type T) "__getitem__"=dG (some (.builtin id))/\
  br (bL C.prog C.w) F.A (getItem o' i') W (λ V V=>False) s
noncomputable def yX(slice:Expr):Prop:=∀o i,∃RM,subscripted slice false o i=operate RM (getItem o i)
theorem Dx{Q:Value->AH->Prop}(hs:yX slice)(h:WE C F n value m U λ o U1=>WE C F n slice m U1 λ i QB=>WG C F n o i m QB Q):WE C F n (.Subscript value slice pos) m U Q:=λ O Z s W R K=>
 JB (h O Z s _ R λ o s₁ U1 R₁ QC=>QC O Z s₁ _ R₁ λ i s₂ QB R₂ QP=>jl (QP o i rfl rfl O Z s₂ _ R₂ K) λ T id hT hl hg=>(aS (hs o i) λ RM e=>(OB hT hl hg e)))
theorem lQ{Q:Value->AH->Prop}(ha:U.rd a=some (.list xs))(h0:0<=k)(hz:xs.length<=10000000)(hk:xs[k.toNat]? =some v)(h:Q v U):WG C F n (.ref a) (vi k) m U Q:=λ o' i' e1 e2 O Z s W R K=>by
 refine jz e1 (iU e2 λ t=>(ck (R.at ha) λ vs c hv hx=>?_))
 have hl:s.heap.IsList a vs.toArray:=⟨_,hv,rfl,_,rfl⟩
 replace hk:=ay▸dE hx▸hk
 refine aM (aQ.mp hk) λ v' RP QT=>?_;subst QT
 have hlt:=(ag.mp RP).1
 have hlen:=dw hx
 exact lc ("list") _ hl.typeIs lB.lookup (wpAny_getItem_list hl h0 (by lia) (by simpa using RP) (K _ _ _ R h))
theorem Fu{Q:Value->AH->Prop}(ha:U.rd a=some (.tup xs))(h0:0<=k)(hz:xs.length<=10000000)(hk:xs[k.toNat]? =some v)(h:Q v U):WG C F n (.ref a) (vi k) m U Q:=λ o' i' e1 e2 O Z s W R K=>by
 refine jz e1 (iU e2 λ t=>(ck (R.at ha) λ vs c hv hx=>?_))
 have hl:IsTup s.heap a vs.toArray:=⟨_,hv,rfl,_,rfl⟩
 replace hk:=ay▸dE hx▸hk
 refine aM (aQ.mp hk) λ v' RP QW=>?_;subst QW
 have hlt:=(ag.mp RP).1
 have hlen:=dw hx
 refine lc ("tuple") _ hl.typeIs slot_tuple_getitem.lookup (getItem_tuple (j:=k.toNat) hl (cS (by decide) h0) (by lia) ?_ (by simpa using RP) (K _ _ _ R h))
 unfold seqIndex?
 have h2:k<(vs.length:Int):=Ob hlt
 have h3:¬k<0:=o6.mpr h0
 simp [h0,h2,h3]
theorem nU{Q:Value->AH->Prop}(hd:U.rd d=some (.dict kvs))(hk:ig kvs k=some v)(h:Q v U):WG C F n (.ref d) (vi k) m U Q:=λ o' i' e1 e2 O Z s W R K=>by
 refine jz e1 (iU e2 λ t=>(aM (R.at hd) λ QK hm hx=>?_))
 have hv:ig kvs k=(dn QK k).map er:=dI hx (eY er QK k)
 replace hv:=hk▸hv
 (try clear hk);cases q:dn QK k with
 | none=>replace hv:=q▸hv;exact (gY hv).elim
 | some v' =>
  replace hv:=q▸hv;(try clear hk);have QY:=sI hv;clear hv;subst QY
  exact lc ("dict") _ hm.typeIs rk.lookup (Mt (lb C k t) hm.mapOf q (K _ _ _ (R.toks O) h))
theorem zV{Q:Value->AH->Prop}(hd:U.rd d=some (.sdict kvs))(hk:ig kvs k=some v)(h:Q v U):WG C F n (.ref d) (.str k 0) m U Q:=λ o' i' e1 e2 O Z s W R K=>by
 refine jz e1 (MX e2 λ t=>(aM (R.at hd) λ QK hm hx=>?_))
 have hv:ig kvs k=(dn QK k).map er:=dI hx (eY er QK k)
 replace hv:=hk▸hv
 (try clear hk);cases q:dn QK k with
 | none=>replace hv:=q▸hv;exact (gY hv).elim
 | some v' =>
  replace hv:=q▸hv;(try clear hk);have Rb:=sI hv;clear hv;subst Rb
  exact lc ("dict") _ hm.typeIs rk.lookup (Mt (yd C k t) hm.mapOf q (K _ _ _ (R.toks O) h))
noncomputable def WI(C:Cx)(F:c_)(n:Nat)(o i v:Value)(m:Str->Option Value)(U:AH)(Q:AH->Prop):Prop:=
 ∀o' i' v',er o' =o->er i' =i->er v' =v->WO C F n (setItem o' i' v') m U λ V U' =>Q U'
theorem xF{Q:fH->(Str->Option Value)->AH->Prop}(hs:iE e (some (.Subscript o i p')) pos.line F.env=dG false)
  (h:WE C F n e m U λ v U1=>WE C F n o m U1 λ ov QB=>WE C F n i m QB λ iv QG=>WI C F n ov iv v m QG λ U4=>Q .next m U4):
  W1 C F n (.Assign [.Subscript o i p'] e pos) m U Q:=λ O Z s W R K=>
 wpAny_Assign_Subscript (sN (h O Z s _ R λ v s₁ U1 R₁ QC=>sN (QC O Z s₁ _ R₁ λ ov s₂ QB R₂ QP=>sN (QP O Z s₂ _ R₂ λ iv s₃ QG R₃ Q_=>
  sN (Q_ ov iv v rfl rfl rfl O Z s₃ _ R₃ λ V s₄ U4 R4 Rq=>(K _ _ _ _ R4 Rq)))))) hs
theorem BC{k:Int}{Q:AH->Prop}(ha:U.get a=some (.list xs))(h0:0<=k)(hz:xs.length<=10000000)(hk:k<xs.length)(h:Q (U.put a (.list (xs.set k.toNat v)))):WI C F n (.ref a) (vi k) v m U Q:=λ o' i' v' e1 e2 e3 O Z s W R K=>by
 refine jz e1 (iU e2 λ t=>(ck ((R.sg _ _ ha).2) λ vs c hv hx=>?_))
 have hlen:=dw hx
 refine ki_setAt hv h0 (Ec hk (cS (bY.mpr hz) (by decide))) (ah bo (Ec hk (bY.mpr (xb hlen (az _))))) (K _ _ _ (R.set O R.core.upd ha (λ b o nb e=>(gI _ _ _ _ nb).trans e) (o:=.list (xs.set k.toNat v)) ⟨vs.set k.toNat v',c,?_,?_⟩) h)
 ·have:=xR hv (λ xs:Array Value=>xs.setIfInBounds k.toNat v')
  rewrite [if_pos (by simp)] at this
  have e:(vs.toArray.setIfInBounds k.toNat v')=(vs.set k.toNat v').toArray:=by simp
  replace this:=e▸this
  exact this
 ·exact af JX (ah hx (ah e3 rfl))
theorem oG{Q:AH->Prop}(hd:U.get d=some (.dict kvs))(hz:kvs.length<=10000000)(h:Q (U.put d (.dict (cW kvs k v)))):WI C F n (.ref d) (vi k) v m U Q:=λ o' i' v' e1 e2 e3 O Z s W R K=>by
 refine jz e1 (iU e2 λ t=>(aM ((R.sg _ _ hd).2) λ QK hm hx=>?_))
 have hl:QK.length=kvs.length:=dI hx (ah (ae ..) rfl)
 refine Hq (lb C k t) hm (λ h' Ry hs=>(K _ _ _ (R.set O R.core.upd hd (λ b o nb e=>(hs.2 b nb).trans e) (o:=.dict (cW kvs k v)) ⟨_,Ry,?_⟩) h)) ?_
 ·rewrite [i_ er];exact ah hx (ah e3 rfl)
 ·exact ah cB (ac (aC hl) (ac hz (aj _ _)))
theorem zs{Q:AH->Prop}(hd:U.get d=some (.sdict kvs))(hz:kvs.length<=10000000)(h:Q (U.put d (.sdict (cW kvs k v)))):WI C F n (.ref d) (.str k 0) v m U Q:=λ o' i' v' e1 e2 e3 O Z s W R K=>by
 refine jz e1 (MX e2 λ t=>(aM ((R.sg _ _ hd).2) λ QK hm hx=>?_))
 have hl:QK.length=kvs.length:=dI hx (ah (ae ..) rfl)
 refine Hq (yd C k t) hm (λ h' Ry hs=>(K _ _ _ (R.set O R.core.upd hd (λ b o nb e=>(hs.2 b nb).trans e) (o:=.sdict (cW kvs k v)) ⟨_,Ry,?_⟩) h)) ?_
 ·rewrite [i_ er];exact ah hx (ah e3 rfl)
 ·exact ah cB (ac (aC hl) (ac hz (aj _ _)))
theorem Gm{Q:Value->AH->Prop}(h:WL C F n es m U λ vs U1=>vs.length<=10000000/\∀a,U1.get a=none->Q (.ref a) (U1.put a (.list vs))):WE C F n (.List es pos) m U Q:=λ O Z s W R K=>
 List_ (h O Z s pos _ R λ vs s₁ U1 R₁ Q8=>by refine aU Q8 λ hz QC=>?_;clear Q8;exact AB (K _ _ _ ((R₁.push O (F_ rfl)).1) (QC _ (R₁.fresh R₁.size_none))) (by refine ah cB ?_;replace hz:=(ae ..)▸hz;exact ac hz (aj _ _)))
theorem oa{Q:Value->AH->Prop}(h:WL C F n es m U λ vs U1=>vs.length<=10000000/\∀a,U1.get a=none->Q (.ref a) (U1.put a (.tup vs))):WE C F n (.Tuple es k pos) m U Q:=λ O Z s W R K=>
 Tuple_ (h O Z s pos _ R λ vs s₁ U1 R₁ Rc=>by refine aU Rc λ hz QC=>?_;clear Rc;exact Oz (K _ _ _ ((R₁.push O (xA rfl)).1) (QC _ (R₁.fresh R₁.size_none))) (by refine ah cB ?_;replace hz:=(ae ..)▸hz;exact ac hz (aj _ _)))
theorem DD{Q:Value->AH->Prop}(h:∀a,U.get a=none->Q (.ref a) (U.put a (.dict []))):WE C F n (.Dict [] [] pos) m U Q:=λ O Z s W R K=>
 wpAny_Dict_empty (K _ _ _ ((R.push O (ao:=.dict []) ⟨[],iB _,rfl⟩).1) (h _ (R.fresh R.size_none)))
theorem xr{Q:Value->AH->Prop}(h:Q (vi i.natAbs) U):WB C F n (.builtin "abs") [vi i] m U (qe Q):=λ QE e O Z s W R K=>by
 refine aI e λ t=>(Qd λ u tk=>(K _ _ _ (R.toks O) ?_))
 have e:(if i<0 then-i else i)=(i.natAbs:Int):=by refine eH (λ V=>?_) λ V=>?_<;>lia
 exact ah e h
theorem C4{Q:Value->AH->Prop}(ha:U.rd a=some (.list xs))(hz:xs.length<=10000000)(h:Q (vi xs.length) U):WB C F n (.builtin "len") [.ref a] m U (qe Q):=λ QE e O Z s W R K=>by
 refine aR e (ck (R.at ha) λ vs c hv hx=>?_)
 have hlen:=dw hx
 refine len_list (items:=vs.toArray) ⟨_,hv,rfl,_,rfl⟩ (by refine ah bo ?_;lia) (K _ _ _ (R.toks O) ?_)
 exact ah bo (ah hlen h)
noncomputable def PG:Value->Bool
 | .none | .bool _ | .int .. | .ref _=>true
 | _=>false
theorem jJ{Q:Value->AH->Prop}(hr:PG v=true)(h:Q (.bool (v==.none)) U):iK C F n (a_ .Is) v .none m U (qe Q):=λ a b ha hb O Z s W R K=>by
 refine LH hb ?_
 subst ha
 cases a<;>first
  | exact wpAny_is_self rfl (K _ _ _ R h)
  | exact wpAny_is_other rfl (by intro x;exact (cI lu x rfl).elim) (K _ _ _ R h)
  | exact (jD hr).elim
end
end
section
structure oX(C:Cx)(it:Addr)(xs:List Value)(UV:fT->Prop)(P:Nat->Obj->Prop):Prop where
 item:∀{A:dY} {s:aE} {i:Nat} {ob:Obj} {v:Value} {Q:Option Value->aE->Prop} {E:Value->aE->Prop},P i ob->s.heap.get? it=some ob->UV s.heap->xs[i]? =some v->
  (∀v' h' tk Q6,er v' =v->P (i+1) Q6 ->h'.get? it=some Q6 ->(∀b o,b≠it->s.heap.get? b=some o->h'.get? b=some o)->Q (some v') {s with heap:=h',toks:=tk})->br (bL C.prog C.w) A (xL (.ref it)) Q E s
 fin:∀{A:dY} {s:aE} {i:Nat} {ob:Obj} {Q:Option Value->aE->Prop} {E:Value->aE->Prop},A.handled=none->P i ob->s.heap.get? it=some ob->UV s.heap->xs[i]? =none->
  (∀h' tk,(∀b o,b≠it->s.heap.get? b=some o->h'.get? b=some o)->Q none {s with heap:=h',toks:=tk})->br (bL C.prog C.w) A (xL (.ref it)) Q E s
 again:∀{A:dY} {s:aE} {i:Nat} {ob:Obj} {Q:Value->aE->Prop} {E:Value->aE->Prop},P i ob->s.heap.get? it=some ob->Q (.ref it) s->br (bL C.prog C.w) A (xM (.ref it)) Q E s
 lets:∀{A:dY} {s:aE} {i:Nat} {ob:Obj} {t:Expr} {v:Value} {Q:Unit->aE->Prop} {E:Value->aE->Prop},P i ob->s.heap.get? it=some ob->Q () s->br (bL C.prog C.w) A (jX t (.ref it) v) Q E s
theorem qi{Q:Unit->aE->Prop}{E:Value->aE->Prop}{nm:String}{vs:Array Value}(ho:s.heap.get? it=some ob)(hc:ob.cls=.type nm)(hd:ob.data=.fields vs)
  (hn:(["enumerate","zip","dict_itemiterator","dict_reverseitemiterator","odict_iterator","itertools.zip_longest","itertools.pairwise"].contains nm)=false) (h:Q () s):br (bL prog w) A (jX t (.ref it) v) Q E s:=by
 have tl:∀es p,br (bL prog w) A (jX (.List es p) (.ref it) v) Q E s:=λ es p=>by
  cases v with
  | ref a=>
   refine ax (wpAny_load ho (ah hc (ah hd (((ah (if_neg (by exact ah hn dK)) ?_):br _ A (if (_&&_)=true then _ else _) Q E s)))))
   exact aZ h
  | _=>exact aZ h
 cases t with
 | Tuple es k p=>exact tl es p
 | List es p=>exact tl es p
 | _=>exact aZ h
theorem zM(C:Cx)(it l:Addr)(xs:List Value):oX C it xs (λ h=>At C h l (.list xs)) (λ i ob=>ob.cls=.type "list_iterator"/\ob.data=.fields #[.ref l,.int i 0]) where
 item:=λ{A s i ob v Q E} hP ho hd hx h=>by
  refine ck hd λ vs c hv e=>?_;clear hd
  replace hx:=ay▸dE e▸hx
  refine aM (aQ.mp hx) λ v' RP QI=>?_;subst QI
  exact nw (items:=vs.toArray) ⟨ob,ho,hP⟩ ⟨_,hv,rfl,_,rfl⟩ (by simpa using RP) λ h' QL hs=>by refine aM QL λ Q6 ho' SR =>?_;clear QL;exact h v' h' s.toks Q6 rfl SR ho' λ b o nb e=>(hs.2 b nb).trans e
 fin:=λ{A s i ob Q E} hA hP ho hd hx h=>by
  refine ck hd λ vs c hv e=>?_;clear hd
  replace hx:=ay▸dE e▸hx
  exact om (items:=vs.toArray) hA ⟨ob,ho,hP⟩ ⟨_,hv,rfl,_,rfl⟩ (by simpa using hx) λ h' hs=>h h' s.toks λ b o nb e=>hs b o nb e
 again:=λ{A s i ob Q E} hP ho h=>wpAny_pyIter_listiter (l:=l) (i:=i) ⟨ob,ho,hP⟩ h
 lets:=λ hP ho h=>qi ho hP.1 hP.2 (by decide) h
theorem Cf(C:Cx)(it l:Addr)(xs:List Value):oX C it xs (λ h=>At C h l (.tup xs)) (λ i ob=>ob.cls=.type "tuple_iterator"/\ob.data=.fields #[.ref l,.int i 0]) where
 item:=λ{A s i ob v Q E} hP ho hd hx h=>by
  refine ck hd λ vs c hv e=>?_;clear hd
  replace hx:=ay▸dE e▸hx
  refine aM (aQ.mp hx) λ v' RP QT=>?_;subst QT
  exact wpAny_pyNext_tuple_item (items:=vs.toArray) ⟨ob,ho,hP⟩ ⟨_,hv,rfl,_,rfl⟩ (by simpa using RP) λ h' QW hs=>by refine aM QW λ Q6 ho' SR =>?_;clear QW;exact h v' h' s.toks Q6 rfl SR ho' λ b o nb e=>(hs.2 b nb).trans e
 fin:=λ{A s i ob Q E} hA hP ho hd hx h=>by
  refine ck hd λ vs c hv e=>?_;clear hd
  replace hx:=ay▸dE e▸hx
  exact wpAny_pyNext_tuple_end (items:=vs.toArray) hA ⟨ob,ho,hP⟩ ⟨_,hv,rfl,_,rfl⟩ (by simpa using hx) λ h' hs=>h h' s.toks λ b o nb e=>hs b o nb e
 again:=λ{A s i ob Q E} hP ho h=>wpAny_pyIter_tupleiter (t:=l) (i:=i) ⟨ob,ho,hP⟩ h
 lets:=λ hP ho h=>qi ho hP.1 hP.2 (by decide) h
noncomputable def fi(lo:Int)(k:Nat):List Value:=(cV k).map λ(i:Nat)=>vi (lo+(i:Int))
theorem lI(lo:Int)(k i:Nat):(fi lo k)[i]? =if i<k then some (vi (lo+i)) else none:=by
 unfold fi
 refine af ay ?_
 by_cases h:i<k
 ·exact ah (gG h) (ah (if_pos h) rfl)
 ·exact ah (if_neg h) (ah (bt (by simp;exact dC h)) rfl)
theorem dt(lo:Int)(k:Nat):(fi lo k).length=k:=by simp [fi]
theorem Cg(C:Cx)(it:Addr)(lo:Int)(k:Nat):oX C it (fi lo k) (λ V=>True) (λ i ob=>i<=k/\ob={cls:=.type "range_iterator",dict:=none,data:=.fields #[OD (lo+i),OD ((k:Int)-i),OD 1],slots:=#[]}) where
 item:=λ{A s i ob v Q E} ⟨hk,hP⟩ ho hd hx h=>by
  subst hP
  replace hx:=(lI ..)▸hx
  split at hx
  ·rename_i hi
   have QY:=sI hx;clear hx;subst QY
   refine wpAny_pyNext_range_item ho (Int.sub_pos_of_lt (cM.mpr hi)) λ h' hit hs=>h _ h' (s.toks+1) _ rfl ⟨hi,rfl⟩ ?_ λ b o nb e=>(hs.2 b nb).trans e
   have e1:lo+((i+1:Nat):Int)=lo+i+1:=Oa
   have e2:(k:Int)-((i+1:Nat):Int)=(k:Int)-i-1:=N_
   exact ah e1 (ah e2 hit)
  ·exact (bw hx).elim
 fin:=λ{A s i ob Q E} hA ⟨hk,hP⟩ ho hd hx h=>by
  subst hP
  replace hx:=(lI ..)▸hx
  split at hx
  ·exact (gY hx).elim
  ·exact wpAny_pyNext_range_end hA ho (by lia) λ h' hs=>h h' s.toks λ b o nb e=>hs b o nb e
 again:=λ{A s i ob Q E} ⟨_,hP⟩ ho h=>by subst hP;exact wpAny_pyIter_rangeiter ho h
 lets:=λ q ho h=>by cases q.2;exact qi ho rfl rfl (by decide) h
theorem zN(C:Cx)(it d:Addr)(kvs:List (Int×Value))(ep:Nat):oX C it (kvs.map λ p=>vi p.1) (λ h=>h.DictAt (eR C.prog C.w) d kvs ep) (λ i ob=>ob.cls=.type "dict_keyiterator"/\ob.data=.fields #[.ref d,.int i 0,.int kvs.length 0,.int ep 0]) where
 item:=λ{A s i ob v Q E} hP ho hd hx h=>by
  replace hx:=ay▸hx
  refine aM (aQ.mp hx) λ Rb RP Q8=>?_;obtain ⟨k,w⟩:=Rb;subst Q8
  refine wpAny_pyNext_dict_item ⟨ob,ho,hP⟩ hd RP λ key h' hkey ⟨Q6,ho',SR⟩ hs=>h key h' s.toks Q6 ?_ SR ho' λ b o nb e=>(hs.2 b nb).trans e
  cases key with
  | int j t=>
   have:j=k:=by simpa [eR,JQ] using hkey
   exact ah this rfl
  | _=>simp [eR,JQ] at hkey
 fin:=λ{A s i ob Q E} hA hP ho hd hx h=>by
  replace hx:=ay▸hx
  exact wpAny_pyNext_dict_end hA ⟨ob,ho,hP⟩ hd (by simpa using hx) λ h' hs=>h h' s.toks λ b o nb e=>hs b o nb e
 again:=λ{A s i ob Q E} hP ho h=>wpAny_pyIter_keyiter (d:=d) ⟨ob,ho,hP⟩ h
 lets:=λ hP ho h=>qi ho hP.1 hP.2 (by decide) h
noncomputable def vR(C:Cx)(x:Value)(xs:List Value)(UV:fT->Prop):Prop:=
 ∀(A:dY) (s:aE) (Q:Value->aE->Prop) (E:Value->aE->Prop),UV s.heap->
  (∀ob P RK,ob.isFreed=false->oX C s.heap.objs.size xs RK P->(∀h,UV h->RK h)->P 0 ob->Q (.ref s.heap.objs.size) {s with heap:=s.heap.push ob})->br (bL C.prog C.w) A (xM x) Q E s
theorem src_list(C:Cx)(l:Addr)(xs:List Value):vR C (.ref l) xs (λ h=>At C h l (.list xs)):=λ A s Q E hd h=>ck (id hd) λ vs c hv e=>(rI (items:=vs.toArray) ⟨_,hv,rfl,_,rfl⟩ (h _ _ _ rfl (zM C _ l xs) (λ V x=>x) ⟨rfl,rfl⟩))
theorem Ey(C:Cx)(l:Addr)(xs:List Value):vR C (.ref l) xs (λ h=>At C h l (.tup xs)):=λ A s Q E hd h=>ck (id hd) λ vs c hv e=>(wpAny_pyIter_tuple (items:=vs.toArray) ⟨_,hv,rfl,_,rfl⟩ (h _ _ _ rfl (Cf C _ l xs) (λ V x=>x) ⟨rfl,rfl⟩))
theorem Ez(C:Cx)(l:Addr)(lo:Int)(k:Nat):vR C (.ref l) (fi lo k) (λ h=>At C h l (.rng lo k)):=λ A s Q E ⟨b,t,u,v,hr,hk,hs⟩ h=>by
 refine wpAny_pyIter_range hr hs (h _ _ _ rfl (Cg C _ lo k) (λ V V=>trivial) ⟨bb _,(ah hk ?_)⟩)
 have e1:lo+((0:Nat):Int)=lo:=N9
 have e2:(k:Int)-((0:Nat):Int)=k:=N8
 exact ah e1 (ah e2 rfl)
theorem By(C:Cx)(d:Addr)(kvs:List (Int×Value))(ep:Nat)(hd:(d==kX)=false):vR C (.ref d) (kvs.map λ p=>vi p.1) (λ h=>h.DictAt (eR C.prog C.w) d kvs ep):=λ A s Q E hm h=>
 wpAny_pyIter_dict hd hm (h _ _ _ rfl (zN C _ d kvs ep) (λ V x=>x) ⟨rfl,rfl⟩)
section
variable{C:Cx}{F:c_}{n:Nat}{m:Str->Option Value}{U U' :AH}{Z Y Y' :List (Addr×Obj)}{s s' :aE}
theorem cj.stepZ(O:F.Ok C n)(R:cj C F (Z++Y) s m U)(c' :l5 C s')(hk:∀b o,(∀p∈Y,p.1≠b)->s.heap.get? b=some o->s'.heap.get? b=some o)
  (hY:∀p∈Y',s'.heap.get? p.1=some p.2/\((∃q∈Y,q.1=p.1)\/s.heap.get? p.1=none)) (hZ:∀p∈Z,∀q∈Y,q.1≠p.1):cj C F (Z++Y') s' m U:=by
 have yz:∀p∈Y,s.heap.get? p.1=some p.2/\p.1≠F.L/\F.h₀.get? p.1=none/\U.get p.1=none:=λ p hp=>R.zz p (ai _ hp)
 have offL:∀p∈Y,p.1≠F.L:=λ p hp=>(yz p hp).2.1
 have offO:∀a∈F.ownA,∀p∈Y,p.1≠a:=λ a ha p hp=>(R.own a ha).2.2 p (ai _ hp)
 have offl:∀p∈Y,p.1≠F.env.locals:=λ p hp=>by
  cases hl:F.oL with
  | none=>exact ah (O.el hl) (offL p hp)
  | some o=>exact offO _ (by simp [c_.ownA,hl]) p hp
 have offc:∀x∈F.cells,∀p∈Y,p.1≠x.2:=λ x hx=>offO _ (by simp [c_.ownA];exact .inl ⟨_,hx⟩)
 have offG:∀a o,F.h₀.get? a=some o->∀p∈Y,p.1≠a:=λ a o h p hp q=>by have:=(yz p hp).2.2.1;replace this:=h▸q▸this;exact (gY this).elim
 have offσ:∀a o,U.get a=some o->∀p∈Y,p.1≠a:=λ a o h p hp q=>by have:=(yz p hp).2.2.2;replace this:=h▸q▸this;exact (gY this).elim
 refine aS R.fr λ mL f=>?_
 have live:∀a,(∀p∈Y,p.1≠a)->rH F s.heap a->rH F s'.heap a:=λ a h Rc=>by refine cu Rc λ RX b c=>?_;clear Rc;obtain ⟨o,x⟩:=RX;exact du ⟨o,hk _ _ h x⟩ b c
 have newp:∀p∈Y',p.1≠F.L/\F.h₀.get? p.1=none/\U.get p.1=none/\∀a∈F.ownA,p.1≠a:=λ p hp=>by
  rcases (hY p hp).2 with ⟨q,hq,e⟩ | h
  ·exact fD (yz q hq) λ V b c d=>(dI e (gN b c d (λ a ha=>offO a ha q hq)))
  ·refine gN (λ e=>?_) ?_ (R.fresh h) (λ a ha e=>?_)
   ·refine aS R.L_live λ o x=>?_;replace h:=x▸e▸h;exact (gY h).elim
   ·cases q:F.h₀.get? p.1 with
    | none=>rfl
    | some o=>replace h:=R.keep _ _ q▸h;exact (gY h).elim
   ·refine aU (R.own a ha) λ Rp V=>(aU Rp λ RW V=>?_);clear Rp;obtain ⟨o,x⟩:=RW;replace h:=x▸e▸h;exact (gY h).elim
 refine ⟨c',⟨mL,d4 f.ns (λ o e=>hk _ _ offL e),λ b o e=>hk _ _ (offG b o e) (f.keep b o e),f.above⟩,λ ml e=>d4 (R.inn ml e) (λ o e=>hk _ _ offL e),?_,?_,?_,?_,?_,?_,R.sm⟩
 ·exact aS R.loc λ ml x=>⟨ml,d4 x λ o e=>hk _ _ offl e⟩
 ·intro x v hx
  obtain ⟨a,a',cv,e,h⟩:=R.var x v hx
  refine ⟨a,a',cv,e,?_⟩
  rcases h with ⟨k,ml,hn,hv⟩ | ⟨k,c,hc,hv⟩
  ·exact .inl ⟨k,ml,d4 hn λ o e=>hk _ _ offl e,hv⟩
  ·exact .inr ⟨k,c,hc,cQ hv λ o e=>hk _ _ (offc _ (mem_of_lookup hc)) e⟩
 ·intro x hx;exact aS (R.cel x hx) λ cv h=>⟨cv,cQ h λ o e=>hk _ _ (offc x hx) e⟩
 ·intro a ha
  refine cu (R.own a ha) λ l b c=>(du (live a (offO a ha) l) b (λ p hp=>?_))
  rcases aw.mp hp with hp | hp
  ·exact c p (ak _ hp)
  ·exact (newp p hp).2.2.2 a ha
 ·intro p hp
  rcases aw.mp hp with hp | hp
  ·exact fD (R.zz p (ak _ hp)) λ a b c d=>(gN (hk _ _ (hZ p hp) a) b c d)
  ·exact fD (newp p hp) λ a b c V=>(gN ((hY p hp).1) a b c)
 ·intro a o e
  exact aU (R.sg a o e) λ l q=>⟨live a (offσ a o e) l,q.keep λ o' e' =>hk _ _ (offσ a o e) e'⟩
theorem cj.dropZ(R:cj C F (Z++Y) s m U):cj C F Z s m U:=
 ⟨R.core,R.fr,R.inn,R.loc,R.var,R.cel,λ a ha=>let ⟨l,b,c⟩:=R.own a ha;⟨l,b,λ p hp=>c p (ak _ hp)⟩,λ p hp=>R.zz p (ak _ hp),R.sg,R.sm⟩
theorem cj.nilZ(R:cj C F Z s m U):cj C F (Z++[]) s m U:=ah (dh ..) R
noncomputable abbrev Jg:=fH->(Str->Option Value)->AH->Prop
noncomputable def qc(Q:Jg)(J:(Str->Option Value)->AH->Prop):Jg:=λ f m U=>match f with
 | .next=>J m U
 | .cont=>J m U
 | .brk=>Q .next m U
 | .ret v=>Q (.ret v) m U
theorem DI(I:Nat->(Str->Option Value)->AH->Prop)(k:Nat)(h:I k m U)
  (turn:∀k m U,I k m U->WT C F n test m U λ b U1=>if b then WS C F n body m U1 (qc Q λ m' U' =>∃j,j<k/\I j m' U') else WS C F n orelse m U1 Q):
  W1 C F n (.While test body orelse pos) m U Q:=λ O Z s W R K=>by
 refine wpAny_While (codeAny_whileLoop (λ k s=>∃m U,cj C F Z s m U/\I k m U) (λ k s Q4=>(ck Q4 λ m U R hI=>?_)) k ⟨m,U,R,h⟩);clear Q4
 refine cz (turn k m U hI O Z s _ R λ b s₁ U1 R₁ QC=>?_) (λ V V q=>q) qz
 cases b with
 | true=>
  refine cz (QC O Z s₁ _ R₁ λ f s₂ RG QB R₂ QP=>?_) (λ V V q=>q) O.xs
  cases f with
  | next=>refine aM QP λ j hj TC =>?_;clear QP;exact ⟨j,hj,RG,QB,R₂,TC⟩
  | cont=>refine aM QP λ j hj TC =>?_;clear QP;exact ⟨j,hj,RG,QB,R₂,TC⟩
  | brk=>exact (K _ _ _ _ R₂ QP)
  | ret v=>exact (K _ _ _ _ R₂ QP)
 | false=>exact cz (QC O Z s₁ _ R₁ K) (λ V V q=>q) O.xs
noncomputable def eK:aT->Option (List Value)
 | .list xs=>some xs
 | .tup xs=>some xs
 | .rng lo k=>some (fi lo k)
 | .ro _ (.dict kvs)=>some (kvs.map λ p=>vi p.1)
 | _=>none
theorem wD(h:eK ao=some xs)(h3:3<a):vR C (.ref a) xs (λ h=>At C h a ao):=by
 have hsys:(a==kX)=false:=beq_false_of_ne (dq (bD (by decide) h3))
 cases ao with
 | list xs=>have Q7:=sI h;clear h;subst Q7;exact src_list C a _
 | tup xs=>have Rf:=sI h;clear h;subst Rf;exact Ey C a _
 | rng lo k=>have Rd:=sI h;clear h;subst Rd;exact Ez C a _ _
 | ro o v=>cases v with
  | dict kvs=>
   have Rn:=sI h;clear h;subst Rn
   intro A s Q E hd k
   refine aU hd λ ho Rm=>?_;clear hd;refine aM Rm λ QK hm hx=>?_;clear Rm
   refine aS hm.dictAt λ ep hA=>?_
   have e:kvs.map (λ p=>vi p.1)=QK.map λ p=>vi p.1:=dI hx (af bC rfl)
   replace k:=e▸k
   refine By C a QK ep hsys A s Q E hA λ ob P RK hf hit R_ hP=>k ob P RK hf hit (λ h' hd' =>R_ h' ?_) hP
   (try clear k);refine ck hA λ o' es ho' r=>?_;clear hA
   replace ho' :=ho▸ho';clear ho;have RA:=sI ho';clear ho';subst RA
   exact iI _ es hd'.1 r
  | _=>exact (bw h).elim
 | _=>exact (bw h).elim
noncomputable def AH.sees(U:AH)(a:Addr)(ao:aT):Prop:=U.get a=some ao\/U.rd a=some ao
theorem cj.atS(R:cj C F Z s m U)(h:U.sees a o):At C s.heap a o:=h.elim (λ h=>(R.sg _ _ h).2) R.at
theorem cj.smS(R:cj C F Z s m U)(h:U.sees a o):3<a:=h.elim (R.sm _ _) λ h=>(AH.rd_get h).elim (R.sm _ _) λ RN=>by refine aS RN λ V h=>?_;clear RN;exact R.sm _ _ h
theorem u9{tp pos:Pos}{iter:Expr}{body:List Stmt}{Q0:fH->aE->Prop}(O:F.Ok C n)(S:Stores F t)(Q:Jg){a:Addr}{ao:aT}{xs:List Value}(J:Nat->(Str->Option Value)->AH->Prop)
  (R₁:cj C F Z s m U) (hi:eK ao=some xs) (h0:J 0 m U) (RI:∀i m U,J i m U->U.sees a ao)
  (Rv:∀i v m U,xs[i]? =some v->J i m U->WS C F n body (fe m t v) U (qc Q (J (i+1)))) (Rk:∀m U,J xs.length m U->Q .next m U)
  (hQ:∀f s' m' U',cj C F Z s' m' U' ->Q f m' U' ->Q0 f s'):
  br (bL C.prog C.w) F.A (xM (.ref a)) (λ it s₂=>ij (bL C.prog C.w) F.A (.forLoop (.Name t tp) it body [] F.env) (λ r s' =>match r with | .ok f=>Q0 f s' | .error e=>Jy (bL C.prog C.w) F.A F.env F.exc e s') s₂) F.exc s:=by
 have ha:=RI 0 m U h0
 refine wD hi (R₁.smS ha) _ _ _ _ (R₁.atS ha) λ ob P RK hf hit R_ TV=>?_
 have hnew:s.heap.get? s.heap.objs.size=none:=R₁.size_none
 have hZ:∀Q6 :Obj,∀p∈Z,∀q∈[(s.heap.objs.size,Q6)],q.1≠p.1:=λ Q6 p hp q hq e=>by
  replace e:=al.mp hq▸e
  have:=(R₁.zz p hp).1
  replace this:=hnew▸dE e▸this;exact (bw this).elim
 have R₂:cj C F (Z++[(s.heap.objs.size,ob)]) {s with heap:=s.heap.push ob} m U:=
  cj.stepZ (s' :={s with heap:=s.heap.push ob}) (Y:=[]) (Y' :=[(s.heap.objs.size,ob)]) O R₁.nilZ ⟨R₁.core.gens,R₁.core.os,R₁.core.dr⟩ (λ b o V e=>aW ob e)
   (λ p hp=>ah (al.mp hp) ⟨cf _ hf,.inr hnew⟩) (λ p V q hq=>absurd hq (dU))
 refine codeAny_forLoop (λ k s' =>∃i m U ob,k=xs.length-i/\i<=xs.length/\cj C F (Z++[(s.heap.objs.size,ob)]) s' m U/\P i ob/\J i m U) (λ k s' Q4=>(He Q4 λ i m' U' Q6 hk Tc R' hP hJ=>?_)) (xs.length-0) ⟨0,m,U,ob,rfl,bb _,R₂,TV,h0⟩;clear Q4
 have UE :=RI i m' U' hJ
 have hob:s'.heap.get? s.heap.objs.size=some Q6 :=(R'.zz _ (ai _ (aN _))).1
 have hdep' :RK s'.heap:=R_ _ (R'.atS UE)
 cases hx:xs[i]? with
 | none=>
  refine hit.fin O.handled hP hob hdep' hx λ h' tk hk' =>?_
  have hil:i=xs.length:=by have:=ug.mp hx;exact bx Tc this
  clear hP Tc hk hx;subst hil
  have Q9 :=R'.stepZ (s' :={s' with heap:=h',toks:=tk}) (Y' :=[]) O R'.core.upd (λ b o h e=>hk' b o (λ q=>h _ (aN _) q.symm) e) (λ p hp=>nomatch hp) (hZ Q6)
  exact vU (hQ _ _ m' U' Q9.dropZ (Rk _ _ hJ))
 | some v=>
  have hlt:=(ag.mp hx).1
  refine hit.item hP hob hdep' hx λ v' h' tk Uf ev SR TI hk' =>?_
  have Q9 :=R'.stepZ (s' :={s' with heap:=h',toks:=tk}) (Y' :=[(s.heap.objs.size,Uf)]) O R'.core.upd (λ b o h e=>hk' b o (λ q=>h _ (aN _) q.symm) e)
   (λ p hp=>ah (al.mp hp) ⟨TI,.inl ⟨_,aN _,rfl⟩⟩) (hZ Q6)
  refine rJ (ge O Q9 S λ s₃ R₃=>?_)
  replace R₃:=ev▸R₃
  refine cz (Rv i v m' U' hx hJ O _ s₃ _ R₃ λ f s₄ m4 U4 R4 Rq=>?_) (λ V V q=>q) O.xs
  cases f with
  | next=>exact ⟨xs.length-(i+1),hk▸fw hlt (bn i),i+1,m4,U4,Uf,rfl,hlt,R4,SR,Rq⟩
  | cont=>exact ⟨xs.length-(i+1),hk▸fw hlt (bn i),i+1,m4,U4,Uf,rfl,hlt,R4,SR,Rq⟩
  | brk=>exact hQ _ _ _ _ R4.dropZ Rq
  | ret v=>exact hQ _ _ _ _ R4.dropZ Rq
theorem cj.lock(O:F.Ok C n)(R:cj C F Z s m U)(hd:U.get d=some (.dict kvs)):∃o,cj C F Z s m (U.put d (.ro o (.dict kvs))):=by
 refine aU (R.sg _ _ hd) λ RF q=>(aU RF λ RV V=>?_);clear RF;obtain ⟨o,ho⟩:=RV
 exact ⟨o,R.set O R.core hd (λ b o V e=>e) ⟨ho,q⟩⟩
theorem cj.unlock(O:F.Ok C n)(R:cj C F Z s m U)(hd:U.get d=some (.ro o v)):cj C F Z s m (U.put d v):=
 R.set O R.core hd (λ b o V e=>e) (R.sg _ _ hd).2.2
end
end
section
noncomputable def m_(e:Expr)(gens:List bS)(g:bS)(emit:Sem Unit)(depth:Nat)(it QD:Value)(env:Env):Sem Fin:=do
 ft (if g.is_async !=0 then e.pos else g.iter.pos)
 match<-if g.is_async !=0 then asyncNext it else xL it with
 | none=>dG (.done .next)
 | some v=>
  jX g.target it v
  jY g.target env v
  let mut ok:=true
  for c in g.ifs do
   if ok then ok<-isTrue c env (fF c env)
  if ok then
   match gens[depth+1]? with
   | some g' =>
    let x<-fF g'.iter env
    ft g'.iter.pos
    let x<-if g'.is_async !=0 then OH g'.iter x else cP g'.iter env x
    let _<-runOwn (.compStart e (depth+1) (<-eS [x] (if g'.is_async !=0 then asyncIter x else xM x)) QD env) env
   | none=>emit
  again (.compLoop e depth it QD env)
noncomputable def sv(QO:Expr)(QD:Value)(env:Env):Sem Unit:=do let _<-call (.builtin "list.append") [QD,<-fF QO env]
noncomputable def ve(k v:Expr)(d:Addr)(env:Env):Sem Unit:=do
 let kv<-fF k env
 let vv<-eS [kv] (fF v env)
 ft {k.pos with endLine:=v.pos.endLine,endCol:=v.pos.endCol}
 eS [kv,vv] (Qb d kv vv)
theorem xg(h:gens[d]? =some g):
  rP (.ListComp QO gens sc pos) d it QD env=m_ (.ListComp QO gens sc pos) gens g (sv QO QD env) d it QD env:=by
 unfold rP m_
 simp only [h]
 rfl
theorem xh(h:gens[d]? =some g):
  rP (.DictComp k v gens sc pos) d it (.ref D) env=m_ (.DictComp k v gens sc pos) gens g (ve k v D env) d it (.ref D) env:=by
 unfold rP m_
 simp only [h]
 rfl
section
variable{C:Cx}{F:c_}{n:Nat}{m:Str->Option Value}{U U' :AH}{Z Y Y' :List (Addr×Obj)}{s s' :aE}
noncomputable def Hj(C:Cx)(F:c_)(n:Nat)(t:Expr)(v:Value)(m:Str->Option Value)(U:AH)(Q:(Str->Option Value)->AH->Prop):Prop:=
 ∀v',er v' =v->F.Ok C n->∀Z s W,cj C F Z s m U->(∀s m U,cj C F Z s m U->Q m U->W () s)->br (bL C.prog C.w) F.A (jY t F.env v') W (λ V V=>False) s
theorem fE{Q:(Str->Option Value)->AH->Prop}(S:Stores F x)(h:Q (fe m x v) U):Hj C F n (.Name x p) v m U Q:=λ v' e O Z s W R K=>
 rJ (ge O R S λ s' R' =>K _ _ _ (e▸R') h)
noncomputable def pT(C:Cx)(F:c_)(n:Nat):List Expr->(Str->Option Value)->AH->(Bool->AH->Prop)->Prop
 | [],_,U,Q=>Q true U
 | c::r,m,U,Q=>WT C F n c m U λ b U1=>if b then pT C F n r m U1 Q else Q false U1
noncomputable def nK(ifs:List Expr)(env:Env)(b:Bool):Sem Bool:=forIn ifs b λ c r=>if r=true then do let ok<-isTrue c env (fF c env);dG (kF ok) else dG (kF r)
theorem o_(M:AW)(A:dY)(E:Value->aE->Prop)(env:Env){Q:Bool->aE->Prop}:∀(ifs:List Expr) (s:aE),Q false s->br M A (nK ifs env false) Q E s
 | [],s,h=>aZ h
 | c::r,s,h=>by
  unfold nK
  refine ah (rn ..) ?_
  simp only [bX,if_false]
  exact ax (aZ (o_ M A E env r s h))
theorem uF(O:F.Ok C n):∀(ifs:List Expr) {m:Str->Option Value} {U:AH} {s:aE} {Q:Bool->AH->Prop} {W:Bool->aE->Prop},pT C F n ifs m U Q->cj C F Z s m U->(∀b s U,cj C F Z s m U->Q b U->W b s)->
  br (bL C.prog C.w) F.A (nK ifs F.env true) W (λ V V=>False) s
 | [],_,U,s,Q,W,h,R,K=>aZ (K _ _ _ R h)
 | c::r,m,U,s,Q,W,h,R,K=>by
  unfold nK
  refine ah (rn ..) ?_
  simp only [if_true]
  refine ax (ax (h O Z s _ R λ b s₁ U1 R₁ QC=>?_))
  cases b with
  | true=>exact aZ (uF O r QC R₁ K)
  | false=>exact aZ (o_ _ _ _ _ r s₁ (K _ _ _ R₁ QC))
noncomputable def Ho{α:Type}(C:Cx)(F:c_)(n:Nat)(g:bS)(Tg:α->(Str->Option Value)->AH->(α->AH->Prop)->Prop)(a:Addr)(ao:aT)(xs:List Value)(y:α)(m:Str->Option Value)(U:AH)(Q:α->AH->Prop):Prop:=
 ∃(J:Nat->α->AH->Prop),J 0 y U/\(∀i y U,J i y U->U.sees a ao)/\
  (∀i v y U,xs[i]? =some v->J i y U->Hj C F n g.target v m U λ Q1 U1=>(∀z w,m z=some w->Q1 z=some w)/\
   pT C F n g.ifs Q1 U1 λ ok QB=>if ok then Tg y Q1 QB (λ y' QG=>J (i+1) y' QG) else J (i+1) y QB)/\∀y U,J xs.length y U->Q y U
noncomputable def CI{α:Type}(C:Cx)(F:c_)(n:Nat)(g:bS)(Tg:α->(Str->Option Value)->AH->(α->AH->Prop)->Prop)(x:Value)(y:α)(m:Str->Option Value)(U:AH)(Q:α->AH->Prop):Prop:=
 ∃(a:Addr) (ao:aT) (xs:List Value),x=.ref a/\eK ao=some xs/\Ho C F n g Tg a ao xs y m U Q
noncomputable def CG{α:Type}(C:Cx)(F:c_)(n:Nat)(E:α->(Str->Option Value)->AH->(α->AH->Prop)->Prop):List bS->α->(Str->Option Value)->AH->(α->AH->Prop)->Prop
 | [],y,m,U,Q=>E y m U Q
 | g::gs,y,m,U,Q=>(g.is_async=0/\∀env x,cP g.iter env x=dG x)/\WE C F n g.iter m U λ x U1=>CI C F n g (CG C F n E gs) x y m U1 Q
theorem tD{t:String->Option fM}(h:(fj e depth it QD env).isFrame=false):
  DX t (.compLoop e depth it QD env)=(rP e depth it QD env).onRaise (λ x=>do noteFrame x env;theTreesLotGoes x):=by
 unfold DX
 simp only [h,bX,if_false]
theorem rA{t:String->Option fM}(h:(go e depth it QD env).isFrame=false):
  DX t (.compStart e depth it QD env)=(compStart e depth it QD env).onRaise (λ x=>do noteFrame x env;ft theWindowsPlace):=by
 unfold DX
 simp only [h,bX,if_false]
theorem cj.memZ(R:cj C F Z s m U)(h:∀p∈Z',p∈Z):cj C F Z' s m U:=
 ⟨R.core,R.fr,R.inn,R.loc,R.var,R.cel,λ a ha=>let ⟨l,b,c⟩:=R.own a ha;⟨l,b,λ p hp=>c p (h p hp)⟩,λ p hp=>R.zz p (h p hp),R.sg,R.sm⟩
structure i7(e:Expr)(gens:List bS)(emit:Sem Unit)(QD:Addr)(env:Env):Prop where
 cl:Mz e=gens
 turn:∀d g it,gens[d]? =some g->rP e d it (.ref QD) env=m_ e gens g emit d it (.ref QD) env
 frS:∀d it QD env,(go e d it QD env).isFrame=false/\(go e d it QD env).weight=0/\(go e d it QD env).cUnits=0
 frL:∀d it QD env,(fj e d it QD env).isFrame=false/\(fj e d it QD env).weight=0/\(fj e d it QD env).cUnits=0/\(fj e d it QD env).quiet=true
noncomputable def t7{α:Type}(C:Cx)(F:c_)(n:Nat)(emit:Sem Unit)(QD:Addr)(Acc:Obj->α->Prop)(E:α->(Str->Option Value)->AH->(α->AH->Prop)->Prop):Prop:=
 F.Ok C n->∀{y m U Q Z s ob},E y m U Q->cj C F (Z++[(QD,ob)]) s m U->(∀p∈Z,p.1≠QD)->Acc ob y->
  br (bL C.prog C.w) F.A emit (λ V s' =>∃Q6 y' U',cj C F (Z++[(QD,Q6)]) s' m U' /\Acc Q6 y' /\Q y' U') (λ V V=>False) s
noncomputable def ir(e:Expr)(gens:List bS)(emit:Sem Unit)(d:Nat)(QD:Value)(env:Env)(k:Sem Fin):Sem Fin:=match gens[d+1]? with
 | some g' =>do
  let x<-fF g'.iter env
  ft g'.iter.pos
  let x<-if g'.is_async !=0 then OH g'.iter x else cP g'.iter env x
  let _<-runOwn (.compStart e (d+1) (<-eS [x] (if g'.is_async !=0 then asyncIter x else xM x)) QD env) env
  k
 | none=>do
  emit
  k
noncomputable def t6{α:Type}(C:Cx)(F:c_)(n:Nat)(t:Sem Fin->Sem Fin)(QD:Addr)(Acc:Obj->α->Prop)(G:α->(Str->Option Value)->AH->(α->AH->Prop)->Prop):Prop:=
 ∀{y:α} {m:Str->Option Value} {U:AH} {Q:α->AH->Prop} {Z:List (Addr×Obj)} {s:aE} {ob:Obj},G y m U Q->cj C F (Z++[(QD,ob)]) s m U->(∀p∈Z,p.1≠QD)->Acc ob y->
  ∀(k:Sem Fin) (R:Fin->aE->Prop),(∀s' Q6 y' U',cj C F (Z++[(QD,Q6)]) s' m U' ->Acc Q6 y' ->Q y' U' ->br (bL C.prog C.w) F.A k R (λ V V=>False) s')->
  br (bL C.prog C.w) F.A (t k) R (λ V V=>False) s
theorem zd(h:g.is_async=0):m_ e gens g emit d it QD env=(do
  ft g.iter.pos
  let r<-xL it
  match r with
  | none=>dG (.done .next)
  | some v=>do
   jX g.target it v
   jY g.target env v
   let ok<-nK g.ifs env true
   if ok=true then ir e gens emit d QD env (again (.compLoop e d it QD env)) else again (.compLoop e d it QD env)):=by
 unfold m_ ir
 simp only [h]
 cases gens[d+1]? with
 | none=>rfl
 | some g' =>
  dsimp only
  cases (g'.is_async !=0)<;>rfl
theorem vj{α:Type}{Acc:Obj->α->Prop}{G:α->(Str->Option Value)->AH->(α->AH->Prop)->Prop}
  (O:F.Ok C n) (W:i7 e gens emit QD F.env) (hg:gens[d]? =some g) (ha:g.is_async=0) (hin:t6 C F n (ir e gens emit d (.ref QD) F.env) QD Acc G)
 {J:Nat->α->AH->Prop} {y:α} {m:Str->Option Value} {U:AH} {Q:α->AH->Prop} {Z:List (Addr×Obj)} {s:aE} {ob Rt:Obj} {P:Nat->Obj->Prop} {RK :fT->Prop}
  (hit:oX C I xs RK P) (R_:∀h,At C h a ao->RK h) (TV:P 0 Rt) (YD:∀p∈Z,I≠p.1) (Xf:I≠QD)
  (h0:J 0 y U) (RI:∀i y U,J i y U->U.sees a ao)
  (Rv:∀i v y U,xs[i]? =some v->J i y U->Hj C F n g.target v m U λ Q1 U1=>(∀z w,m z=some w->Q1 z=some w)/\
   pT C F n g.ifs Q1 U1 λ ok QB=>if ok then G y Q1 QB (λ y' QG=>J (i+1) y' QG) else J (i+1) y QB) (Rk:∀y U,J xs.length y U->Q y U)
  (R₂:cj C F ((Z++[(I,Rt)])++[(QD,ob)]) s m U) (hza:∀p∈Z,p.1≠QD) (Ug:Acc ob y):
  ij (bL C.prog C.w) F.A (.compStart e d (.ref I) (.ref QD) F.env)
   (λ r s' =>∃f,r=.ok f/\∃Q6 y' U',cj C F (Z++[(QD,Q6)]) s' m U' /\Acc Q6 y' /\Q y' U') s:=by
 have hIz:∀(ob:Obj) (Sz :Obj),∀p∈Z++[(QD,ob)],∀q∈[(I,Sz)],q.1≠p.1:=λ Zh Sz p hp q hq=>by
  refine ah (al.mp hq) ?_
  rcases aw.mp hp with hp | hp
  ·exact YD p hp
  ·exact ah (al.mp hp) Xf
 --both roads of compStart lead to the loop
 have loop:ij (bL C.prog C.w) F.A (.compLoop e d (.ref I) (.ref QD) F.env)
   (λ r s' =>∃f,r=.ok f/\∃Q6 y' U',cj C F (Z++[(QD,Q6)]) s' m U' /\Acc Q6 y' /\Q y' U') s:=by
  refine codeAny_loop (W.frL _ _ _ _).2.2.2 (λ k s' =>∃i y ob Rt U,k=xs.length-i/\i<=xs.length/\cj C F ((Z++[(I,Rt)])++[(QD,ob)]) s' m U/\Acc ob y/\P i Rt/\J i y U)
   (λ k s' ⟨i,y',Q6,Sz,U',hk,Tc,R',UU,hP,hJ⟩=>(ah (ux (W.frL _ _ _ _).2.1 (W.frL _ _ _ _).2.2.1) (ah (show (bL C.prog C.w).den=DX JU from rfl) (ah (tD (W.frL _ _ _ _).1) (ah (W.turn d g _ hg) (ah (zd ha) (Pk (cz (Q:=_) (ax (d_ (ax ?_))) (λ V V x=>x) qz)))))))) (xs.length-0) ⟨0,y,ob,Rt,U,rfl,bb _,R₂,Ug,TV,h0⟩
  have hob:s'.heap.get? I=some Sz :=(R'.zz _ (ak _ (ai _ (aN _)))).1
  have hdep' :RK s'.heap:=R_ _ (R'.atS (RI _ _ _ hJ))
  have RY:cj C F ((Z++[(QD,Q6)])++[(I,Sz)]) s' m U' :=R'.memZ λ p hp=>by simp only [aw,al] at hp⊢;rcases hp with (h | h) | h<;>simp [h]
  cases hx:xs[i]? with
  | none=>
   refine hit.fin O.handled hP hob hdep' hx λ h' tk hk' =>?_
   have hil:i=xs.length:=by have:=ug.mp hx;exact bx Tc this
   clear hP Tc hk hx;subst hil
   have Q9 :=RY.stepZ (s' :={s' with heap:=h',toks:=tk}) (Y' :=[]) O R'.core.upd (λ b o h e=>hk' b o (λ q=>h _ (aN _) q.symm) e) (λ p hp=>nomatch hp) (hIz Q6 Sz)
   exact aZ ⟨.next,rfl,Q6,y',U',Q9.dropZ,UU,Rk _ _ hJ⟩
  | some v=>
   have hlt:=(ag.mp hx).1
   refine hit.item hP hob hdep' hx λ v' h' tk Sm ev SR TI hk' =>?_
   have Q9 :=RY.stepZ (s' :={s' with heap:=h',toks:=tk}) (Y' :=[(I,Sm)]) O R'.core.upd (λ b o h e=>hk' b o (λ q=>h _ (aN _) q.symm) e)
    (λ p hp=>ah (al.mp hp) ⟨TI,.inl ⟨_,aN _,rfl⟩⟩) (hIz Q6 Sz)
   have R3:cj C F ((Z++[(I,Sm)])++[(QD,Q6)]) {s' with heap:=h',toks:=tk} m U' :=Q9.memZ λ p hp=>by simp only [aw,al] at hp⊢;rcases hp with (h | h) | h<;>simp [h]
   refine ax (hit.lets (s:={s' with heap:=h',toks:=tk}) SR TI (ax (Rv i v y' U' hx hJ v' ev O _ _ _ R3 λ s₄ m4 U4 R4 Q4=>(aU Q4 λ hm hc=>?_))));clear Q4
   refine ax (uF O g.ifs hc R4 λ ok S_ U5 R5 Sj=>?_)
   have hzI:∀p∈Z++[(I,Sm)],p.1≠QD:=λ p hp=>by
    rcases aw.mp hp with hp | hp
    ·exact hza p hp
    ·exact ah (al.mp hp) Xf
   cases ok with
   | true=>
    simp only [if_true] at Sj⊢
    exact hin Sj R5 hzI UU _ _ (λ s6 Xw y6 U6 R6 Sq YB=>(aZ ⟨rfl,xs.length-(i+1),hk▸fw hlt (bn i),i+1,y6,Xw,Sm,U6,rfl,hlt,R6.forget hm,Sq,SR,YB⟩))
   | false=>
    simp only [bX,if_false] at Sj⊢
    exact aZ ⟨rfl,xs.length-(i+1),hk▸fw hlt (bn i),i+1,y',Q6,Sm,U5,rfl,hlt,R5.forget hm,UU,SR,Sj⟩
 refine vW (ah (ux (W.frS _ _ _ _).2.1 (W.frS _ _ _ _).2.2) (ah (show (bL C.prog C.w).den=DX JU from rfl) (ah (rA (W.frS _ _ _ _).1) (Pk (cz (Q:=_) ?_ (λ V V x=>x) qz)))))
 unfold compStart
 simp only [W.cl,hg,Option.elim_some,ha]
 have q:=(W.frL d (.ref I) (.ref QD) F.env).2.2.2
 refine (?_:br _ _ (ask>>=_) _ _ _)
 refine ax (wpAny_askSetting (wpAny_ite ?_))
 have R2I:s.heap.get? I=some Rt:=(R₂.zz _ (ak _ (ai _ (aN _)))).1
 refine eH (λ V=>?_) λ V=>?_
 ·exact aZ ⟨q,loop⟩
 ·refine ax (nv (ax (d_ (ax ?_))))
  exact hit.again TV R2I (aZ ⟨q,loop⟩)
theorem xf{α:Type}{Acc:Obj->α->Prop}{G:α->(Str->Option Value)->AH->(α->AH->Prop)->Prop}
  (O:F.Ok C n) (W:i7 e gens emit QD F.env) (hg:gens[d]? =some g) (ha:g.is_async=0) (hin:t6 C F n (ir e gens emit d (.ref QD) F.env) QD Acc G)
  {a:Addr} {y:α} {m:Str->Option Value} {U:AH} {Q:α->AH->Prop} {Z:List (Addr×Obj)} {s:aE} {ob:Obj}
  (h:CI C F n g G (.ref a) y m U Q) (R:cj C F (Z++[(QD,ob)]) s m U) (hza:∀p∈Z,p.1≠QD) (Ug:Acc ob y):
  br (bL C.prog C.w) F.A (xM (.ref a)) (λ it s₂=>ij (bL C.prog C.w) F.A (.compStart e d it (.ref QD) F.env)
   (λ r s' =>∃f,r=.ok f/\∃Q6 y' U',cj C F (Z++[(QD,Q6)]) s' m U' /\Acc Q6 y' /\Q y' U') s₂) (λ V V=>False) s:=by
 refine vg h λ a' ao xs e1 hi QI=>?_;clear h;refine nW QI λ J h0 RI Rv Rk=>?_;clear QI
 cases e1
 have WX:=RI 0 y U h0
 refine wD hi (R.smS WX) _ _ _ _ (R.atS WX) λ Rt P RK hf hit R_ TV=>?_
 generalize hI:s.heap.objs.size=I at hit⊢
 have hnew:s.heap.get? I=none:=hI▸R.size_none
 have hIz:∀p∈Z++[(QD,ob)],I≠p.1:=λ p hp e=>by
  have:=(R.zz p hp).1
  replace this:=hnew▸dE e▸this;exact (bw this).elim
 have R₂:cj C F ((Z++[(I,Rt)])++[(QD,ob)]) {s with heap:=s.heap.push Rt} m U:=by
  have:=cj.stepZ (s' :={s with heap:=s.heap.push Rt}) (Z:=Z++[(QD,ob)]) (Y:=[]) (Y' :=[(I,Rt)]) O R.nilZ ⟨R.core.gens,R.core.os,R.core.dr⟩ (λ b o V e=>aW Rt e)
   (λ p hp=>ah (al.mp hp) ⟨dI hI (cf _ hf),.inr hnew⟩) (λ p V q hq=>absurd hq (dU))
  exact this.memZ λ p hp=>by simp only [aw,al] at hp⊢;rcases hp with (h | h) | h<;>simp [h]
 exact vj O W hg ha hin hit R_ TV (λ p hp=>hIz p (ak _ hp)) (hIz _ (ai _ (aN _))) h0 RI Rv Rk R₂ hza Ug
theorem Ch{α:Type}{emit:Sem Unit}{QD:Addr}{Acc:Obj->α->Prop}{E:α->(Str->Option Value)->AH->(α->AH->Prop)->Prop}
  (O:F.Ok C n) (W:i7 e gens emit QD F.env) (hE:t7 C F n emit QD Acc E):∀(gs:List bS) (d:Nat) (g:bS),gens.drop d=g::gs->t6 C F n (ir e gens emit d (.ref QD) F.env) QD Acc (CG C F n E gs):=by
 intro gs
 induction gs with
 | nil=>
  intro d g hd y m U Q Z s ob h R hz hA k R' hk
  have hn:gens[d+1]? =none:=Bi GI (dI HD (ah hd rfl))
  unfold ir
  exact ah hn (ax (cz (hE O h R hz hA) (λ V s' QL=>by refine vg QL λ Q6 y' U' a b c=>?_;clear QL;exact hk s' Q6 y' U' a b c) qz))
 | cons g' YN ih=>
  intro d g hd y m U Q Z s ob ⟨⟨UE,hs'⟩,h⟩ R hz hA k R' hk
  have hd' :gens.drop (d+1)=g' ::YN :=Bi HD (ah hd rfl)
  have hn:gens[d+1]? =some g' :=Bi GI (ah hd' rfl)
  unfold ir
  refine ah hn ?_
  simp only [UE]
  refine ax (h O _ _ _ R λ x s₁ U1 R₁ QC=>ax (d_ (((ah (hs' ..) (ax (aZ (ax (bR ?_))))):br _ _ (cP g'.iter F.env x>>=_) _ _ _))))
  have hx:∃b,er x=.ref b:=by refine pz QC λ b V V e V=>?_;clear QC;exact ⟨b,e⟩
  refine aS hx λ b hb=>?_;clear hx
  replace QC:=hb▸QC
  refine jz hb (cz (xf O W hn UE (ih (d+1) g' hd') QC R₁ hz hA) (λ it s₂ QP=>?_) qz)
  have h2' :ij (bL C.prog C.w) (F.A.mark none) (.compStart e (d+1) it (.ref QD) F.env) (λ r s' =>∃f,r=.ok f/\∃Q6 y' U',cj C F (Z++[(QD,Q6)]) s' m U' /\Acc Q6 y' /\Q y' U') s₂:=QP
  refine ax (wpAny_runOwn (f_ h2' (λ r s' q=>?_)))
  obtain ⟨f,rfl,Q6,y',U',a,b,c⟩:=q
  exact hk s' Q6 y' U' a b c
end
end
section
noncomputable def dT(cells:List (Str×Addr)):List (Str×dM)->List (Str×Addr)->List (Str×Addr)
 | [],QD=>QD
 | (x,k)::r,QD=>if k==.free then (match cells.lookup x with
   | some c=>dT cells r ((x,c)::QD)
   | none=>dT cells r QD) else dT cells r QD
theorem kP(cells:List (Str×Addr))(x:Str)(k:dM)(r:List (Str×dM))(QD:List (Str×Addr)):dT cells ((x,k)::r) QD=if k==.free then (match cells.lookup x with
   | some c=>dT cells r ((x,c)::QD)
   | none=>dT cells r QD) else dT cells r QD:=rfl
theorem rB(h:∀x∈scope.names,x.2=.free->∃c,env.cells.lookup x.1=some c):closureFor scope env=dG (dT env.cells scope.names []):=by
 unfold closureFor
 have key:∀(l:List (Str×dM)) (QD:List (Str×Addr)),(∀x∈l,x.2=.free->∃c,env.cells.lookup x.1=some c)->
   (forIn l QD λ x cs=>if (x.2==fc)=true then do let c<-cellOf env x.1;dG (kF ((x.1,c)::cs)) else dG (kF cs))=(dG (dT env.cells l QD):Sem _):=by
  intro l
  induction l with
  | nil=>intro QD _;rfl
  | cons x r ih=>
   intro QD h
   obtain ⟨n,k⟩:=x
   refine af (rn ..) (ah (kP ..) ?_)
   by_cases hk:(k==fc)=true
   ·have hk' :k=.free:=by simpa using hk
    refine aS (h _ (.head _) hk') λ c hc=>?_
    simp only at hc
    simp only [hk,if_true,hc]
    unfold cellOf
    exact ah hc (ih _ λ x hx=>h x (.tail _ hx))
   ·simp only [hk,if_false,bX]
    exact ih _ λ x hx=>h x (.tail _ hx)
 change (forIn scope.names [] _>>=λ cs=>dG cs)=_
 have:=key scope.names [] h
 exact (congrArg (· >>=λ cs=>dG cs) this)
theorem jK:∀(l:List (Str×dM)) (QD:List (Str×Addr)),(∀x∈l,x.2=.free->cells.lookup x.1=cells'.lookup x.1)->dT cells l QD=dT cells' l QD
 | [],QD,h=>rfl
 | (x,k)::r,QD,h=>by
  rewrite [kP,kP]
  split at⊢
  ·rename_i hk
   have hk' :k=.free:=by simpa using hk
   have e:=h (x,k) (.head _) hk'
   simp only at e
   rewrite [e]
   cases cells'.lookup x with
   | none=>exact jK r _ λ x hx=>h x (.tail _ hx)
   | some c=>exact jK r _ λ x hx=>h x (.tail _ hx)
  ·exact jK r _ λ x hx=>h x (.tail _ hx)
set_option tactic.hygienic true in
theorem jm:∀(l:List (Str×dM)) (QD:List (Str×Addr)),(∀p∈QD,cells.lookup p.1=some p.2)->∀p∈dT cells l QD,cells.lookup p.1=some p.2
 | [],QD,h=>h
 | (x,k)::r,QD,h=>by
  refine ah (kP ..) (eH (λ V=>?_) λ V=>?_)
  ·split at⊢
   ·rename_i c hc
    exact jm r _ λ p hp=>by
     rcases aL.mp hp with rfl | hp
     ·exact hc
     ·exact h p hp
   ·exact jm r QD h
  ·exact jm r QD h
theorem jn:∀(l:List (Str×dM)) (QD:List (Str×Addr)),(∀p∈QD,p.1∉l.map (·.1))->(QD.map (·.1)).Nodup->(l.map (·.1)).Nodup->((dT cells l QD).map (·.1)).Nodup
 | [],QD,_,h,_=>h
 | (x,k)::r,QD,h,ha,hl=>by
  simp only [bc,bp] at hl
  have h' :∀p∈QD,p.1∉r.map (·.1):=λ p hp q=>h p hp (List.mem_cons_of_mem _ q)
  refine ah (kP ..) (eH (λ V=>?_) λ V=>?_)
  ·split at⊢
   ·refine jn r _ (λ p hp=>?_) ?_ hl.2
    ·rcases aL.mp hp with rfl | hp
     ·exact hl.1
     ·exact h' p hp
    ·exact ah bc (io bp (⟨λ q=>(aM (aJ.mp q) λ p hp e=>(h p hp (ah e (.head _)))),ha⟩))
   ·exact jn r QD h' ha hl.2
  ·exact jn r QD h' ha hl.2
set_option tactic.hygienic true in
theorem mw:∀(l:List (Str×dM)) (QD:List (Str×Addr)) (x:Str) (c:Addr),(x,fc)∈l\/(x,c)∈QD->cells.lookup x=some c->(x,c)∈dT cells l QD
 | [],QD,x,c,h,_=>h.elim (λ h=>nomatch h) id
 | (y,k)::r,QD,x,c,h,hc=>by
  refine ah (kP ..) (eH (λ hk=>?_) λ hk=>?_)
  ·split at⊢
   ·rename_i c' RQ
    refine mw r _ x c ?_ hc
    (try clear hk);rcases h with h | h
    ·(try clear hk);rcases aL.mp h with e | h
     ·clear h;cases e
      replace RQ :=hc▸RQ;(try clear hc);have QI:=sI RQ;clear RQ;subst QI
      exact .inr (.head _)
     ·exact .inl h
    ·exact .inr (.tail _ h)
   ·rename_i RQ
    refine mw r QD x c ?_ hc
    (try clear hk);rcases h with h | h
    ·(try clear hk);rcases aL.mp h with e | h
     ·clear h;cases e;replace RQ :=hc▸RQ;exact (gY RQ).elim
     ·exact .inl h
    ·exact .inr h
  ·refine mw r QD x c ?_ hc
   (try clear hc);rcases h with h | h
   ·(try clear hc);rcases aL.mp h with e | h
    ·clear h;cases e;exact absurd rfl hk
    ·exact .inl h
   ·exact .inr h
theorem rx{l:List (Str×Addr)}(h:(l.map (·.1)).Nodup)(hm:(x,c)∈l):l.lookup x=some c:=by
 induction l with
 | nil=>cases hm
 | cons p r ih=>
  obtain ⟨y,d⟩:=p
  simp only [bc,bp] at h
  rcases aL.mp hm with e | hm
  ·clear h hm;cases e;simp
  ·have:x≠y:=λ e=>h.1 (e▸bf hm)
   refine af bq ?_
   have hb:(x==y)=false:=by simpa using this
   exact ah hb (ih h.2 hm)
theorem kd:∀(l:List (Str×dM)) (QD:List (Str×Addr)),∀p∈dT cells l QD,(p.1,fc)∈l\/p∈QD
 | [],QD,p,h=> .inr h
 | (x,k)::r,QD,p,h=>by
  replace h:=(kP ..)▸h
  split at h
  ·rename_i hk
   have hk' :k=.free:=by simpa using hk
   split at h
   ·rcases kd r _ p h with q | q
    ·exact .inl (.tail _ q)
    ·(try clear h);rcases aL.mp q with e | q
     ·clear q;subst e;exact .inl (ah hk' (.head _))
     ·exact .inr q
   ·exact (kd r _ p h).imp (.tail _) id
  ·exact (kd r _ p h).imp (.tail _) id
theorem iw:∀(l:List (Str×dM)) (n:Nat) (QD:List (Str×Addr)) (x:Str),(∀k,(x,k)∈l->k≠ .cell)->(dg n l QD).lookup x=QD.lookup x
 | [],_,_,_,_=>rfl
 | (y,k)::r,n,QD,x,h=>by
  unfold dg
  refine eH (λ hk=>?_) λ V=>?_
  ·refine ah (iw r _ _ x λ k hk=>h k (.tail _ hk)) ?_
   have hk' :k=.cell:=by simpa using hk
   have:x≠y:=λ e=>h k (ah e (.head _)) hk'
   refine af bq ?_
   have hb:(x==y)=false:=by simpa using this
   exact ah hb rfl
  ·exact iw r _ _ x λ k hk=>h k (.tail _ hk)
theorem jU:∀(l:List (Str×dM)) (n:Nat) (QD:List (Str×Addr)) (p:Str×Addr),p∈dg n l QD->p∈QD\/(n<=p.2/\(p.1,fG)∈l)
 | [],_,_,_,h=> .inl h
 | (y,k)::r,n,QD,p,h=>by
  unfold dg at h
  split at h
  ·rename_i hk
   have hk' :k=.cell:=by simpa using hk
   rcases jU r _ _ p h with h | ⟨h1,h2⟩
   ·rcases aL.mp h with e | h
    ·(try clear h);subst e;exact .inr ⟨az _,ah hk' (.head _)⟩
    ·exact .inl h
   ·exact .inr ⟨pY h1,.tail _ h2⟩
  ·rcases jU r _ _ p h with h | ⟨h1,h2⟩
   ·exact .inl h
   ·exact .inr ⟨h1,.tail _ h2⟩
theorem jo:∀(l:List (Str×dM)) (n:Nat) (QD:List (Str×Addr)),(∀x∈QD,x.2<n)->QD.Pairwise (λ x y=>x.2≠y.2)->(dg n l QD).Pairwise (λ x y=>x.2≠y.2)
 | [],_,_,_,h=>h
 | (nm,k)::r,n,QD,h1,h2=>by
  unfold dg
  refine eH (λ V=>?_) λ V=>?_
  ·refine jo r (n+1) _ (λ x hx=>?_) (jN.mpr ⟨λ x hx=>?_,h2⟩)
   ·rcases aL.mp hx with rfl | hx
    ·exact bn _
    ·exact ky (h1 x hx)
   ·exact gk (bu (h1 x hx))
  ·exact jo r n QD h1 h2
theorem jb:∀(l:List (Str×dM)) (h:fT) (QD:List (Str×Addr)),∀p∈dg h.objs.size l QD,p∈QD\/(h.objs.size<=p.2/\(ku h l).IsCell p.2 none)
 | [],h,QD,p,hp=> .inl hp
 | (y,k)::r,h,QD,p,hp=>by
  unfold dg at hp
  unfold ku
  split at hp
  ·rename_i hk
   refine ah (if_pos hk) ?_
   have:=jb r (h.push {cls:=.type "cell",data:=.cell none}) ((y,h.objs.size)::QD) p (ah (jQ ..) hp)
   (try clear hp);rcases this with q | ⟨q1,q2⟩
   ·(try clear hp);rcases aL.mp q with e | q
    ·clear q;subst e
     exact .inr ⟨az _,_,vV _ _ _ _ (cf _ rfl),rfl⟩
    ·exact .inl q
   ·replace q1:=(jQ ..)▸q1
    exact .inr ⟨pY q1,q2⟩
  ·rename_i hk
   exact ah (if_neg hk) (jb r h QD p hp)
section
variable{C:Cx}{F:c_}{n:Nat}{m:Str->Option Value}{U U' :AH}{Z Y Y' :List (Addr×Obj)}{s s' :aE}
noncomputable abbrev Fc(F:c_)(sc:Scope)(L2:Addr)(mL:Str->Option Value):c_:=
 {F with env:=compEnvC sc (dg (L2+1) sc.names (dT F.cells sc.names [])) L2 F.env,oL:=some mL,cells:=dg (L2+1) sc.names (dT F.cells sc.names []),exc:=λ V V=>False}
noncomputable def iJ(sc:Scope)(m:Str->Option Value):Str->Option Value:=λ x=>if sc.names.lookup x=some .free then m x else none
structure pR(F:c_)(sc:Scope):Prop where
 kind:sc.kind=.function
 nodup:(sc.names.map (·.1)).Nodup
 free:∀x∈sc.names,x.2=.free->(F.env.kindOf x.1=some .cell\/F.env.kindOf x.1=some .free)/\x.1≠ "__class__"
 cls:∀x∈sc.names,x.1≠ "__class__"
theorem ip{l:List (Str×dM)}(h:(l.map (·.1)).Nodup):l.lookup x=some k↔(x,k)∈l:=by
 constructor
 ·exact mem_of_lookup
 ·intro hm
  induction l with
  | nil=>cases hm
  | cons p r ih=>
   obtain ⟨y,d⟩:=p
   simp only [bc,bp] at h
   rcases aL.mp hm with e | hm
   ·clear h hm;cases e;simp
   ·have:x≠y:=λ e=>h.1 (e▸bf hm)
    refine af bq ?_
    have hb:(x==y)=false:=by simpa using this
    exact ah hb (ih h.2 hm)
theorem gZ(sc:Scope)(env:Env)(hk:env.scope.kind=.function)(x:Str):(rN sc env).names.lookup x=(sc.names.lookup x).map λ k=>if (k==.free&&env.kindOf x==some .cell)=true then .cell else k:=by
 unfold rN
 simp only [hk]
 induction sc.names with
 | nil=>rfl
 | cons p r ih=>
  obtain ⟨y,k⟩:=p
  refine ah bc (?_:y5 x ((if (k==fc&&iW==iW&&env.kindOf y==some fG)=true then (y,fG) else (y,k))::_)=_)
  have ee:(k==fc&&iW==iW&&env.kindOf y==some fG)=(k==fc&&env.kindOf y==some fG):=by simp
  refine ah ee ?_
  by_cases hc:(k==fc&&env.kindOf y==some fG)=true
  ·refine ah (if_pos hc) (af bq (ah bq ?_))
   by_cases e:x=y
   ·(try clear ee);subst e
    simp only [beq_self_eq_true,fb]
    exact ah (if_pos hc) rfl
   ·have hb:(x==y)=false:=by simpa using e
    exact ah hb ih
  ·refine ah (if_neg hc) (af bq (ah bq ?_))
   by_cases e:x=y
   ·(try clear ee);subst e
    simp only [beq_self_eq_true,fb]
    exact ah (if_neg hc) rfl
   ·have hb:(x==y)=false:=by simpa using e
    exact ah hb ih
section
variable{sc:Scope}
theorem nY(O:F.Ok C n)(S:pR F sc){x:Str}(hx:sc.names.lookup x=some .free):∃c,F.cells.lookup x=some c/\(dT F.cells sc.names []).lookup x=some c:=by
 have hm:=(ip S.nodup).mp hx
 exact aU (S.free _ hm rfl) λ hk hc=>(aS (O.cok x hk hc) λ c hc=>(cC c hc (rx (jn sc.names [] (by intro _ h;cases h) gm S.nodup) (mw _ _ _ _ (.inl hm) hc))))
theorem mD(O:F.Ok C n)(S:pR F sc){x:Str}(hx:sc.names.lookup x=some .free)(k:Nat):(dg k sc.names (dT F.cells sc.names [])).lookup x=(dT F.cells sc.names []).lookup x:=by
 refine iw _ _ _ _ λ k' hk' e=>?_
 have:=(ip S.nodup).mpr hk'
 replace this:=e▸hx▸this;have QL:=sI this;clear this;cases QL
theorem CQ(O:F.Ok C n)(S:pR F sc):(dT F.cells sc.names []).Pairwise λ x y=>x.2≠y.2:=by
 have hk:=jn (cells:=F.cells) sc.names [] (by intro _ h;cases h) gm S.nodup
 have hl:=jm (cells:=F.cells) sc.names [] (λ V h=>nomatch h)
 revert hk hl
 generalize dT F.cells sc.names []=l
 intro hk hl
 induction l with
 | nil=>exact .nil
 | cons p r ih=>
  simp only [bc,bp] at hk
  refine jN.mpr ⟨λ q hq e=>?_,ih hk.2 λ p hp=>hl p (.tail _ hp)⟩
  have h1:=hl p (.head _)
  have h2:=hl q (.tail _ hq)
  have:=DR O.capart (mem_of_lookup h1) (e▸mem_of_lookup h2)
  exact hk.1 (this▸bf hq)
theorem cj.block(O:F.Ok C n)(S:pR F sc)(R:cj C F Z s m U):∃mL Zx,(Fc F sc s.heap.objs.size mL).Ok C n/\(∀p∈Zx,p.1∈F.ownA)/\
  cj C (Fc F sc s.heap.objs.size mL) (Z++Zx) {s with heap:=ku (s.heap.push {cls:=.type "dict",data:=.dict #[]}) sc.names} (iJ sc m) U/\
  (∀s' Z' V7 U',cj C (Fc F sc s.heap.objs.size mL) Z' s' (iJ sc m) U' ->(∀p∈Zx,p∈Z')->(∀p∈V7,(p∈Z' \/(p.1=s.heap.objs.size/\s'.heap.get? p.1=some p.2))/\∀a∈F.ownA,p.1≠a)->cj C F V7 s' m U'):=by
 refine aS R.fr λ mL FR=>?_
 have keep:∀b o,s.heap.get? b=some o->(ku (s.heap.push {cls:=.type "dict",data:=.dict #[]}) sc.names).get? b=some o:=λ b o e=>vV _ _ _ _ (aW _ e)
 have live:∀a,rH F s.heap a->a<s.heap.objs.size:=λ a QT=>by refine aU QT λ RX V=>?_;clear QT;obtain ⟨o,h⟩:=RX;exact bz h
 have Sr:=jm (cells:=F.cells) sc.names [] (λ V h=>nomatch h)
 have closOwn:∀p∈dT F.cells sc.names [],p.2∈F.ownA:=λ p hp=>by simp [c_.ownA];exact .inl ⟨_,mem_of_lookup (Sr p hp)⟩
 have closLt:∀p∈dT F.cells sc.names [],p.2<s.heap.objs.size:=λ p hp=>live _ (R.own _ (closOwn p hp)).1
 let Zx:=dQ s.heap (F.ownA.filter λ a=> !((dT F.cells sc.names []).map (·.2)).contains a)
 have memZx:∀{p},p∈Zx↔(p.1∈F.ownA/\(∀q∈dT F.cells sc.names [],q.2≠p.1))/\s.heap.get? p.1=some p.2:=λ{p}=>by
  refine io bH (io bE ?_)
  simp only [b9,y7,decide_eq_false_iff_not,aJ,not_exists,not_and]
 have offL:s.heap.objs.size≠F.L:=λ e=>aS R.L_live λ o h=>(absurd (bz h) (ah e (bP _)))
 have blk:=jb sc.names (s.heap.push {cls:=.type "dict",data:=.dict #[]}) (dT F.cells sc.names [])
 replace blk:=(jQ ..)▸blk
 have O' :(Fc F sc s.heap.objs.size mL).Ok C n:=by
  refine ⟨O.B,O.hA,O.hf,O.hk,O.G,S.kind,O.eg,O.eb,(λ h=>nomatch h),λ V=>offL,O.handled,?_,?_,λ V V h=>h,?_,O.depth,O.units,qz⟩
  ·exact jo _ _ _ (λ x hx=>ky (closLt x hx)) (CQ O S)
  ·intro x hx
   rcases jU _ _ _ _ hx with h | ⟨h,_⟩
   ·exact bu (closLt x h)
   ·exact dq h
  ·intro x hx hc
   have hx' :∃k,sc.names.lookup x=some k/\(k=.cell\/k=.free):=by
    have e:=gZ sc F.env O.ek x
    change (rN sc F.env).names.lookup x=_\/(rN sc F.env).names.lookup x=_ at hx
    replace hx:=e▸hx
    cases q:sc.names.lookup x with
    | none=>replace hx:=q▸hx;rcases hx with h | h<;>exact (bw h).elim
    | some k=>
     refine cC k rfl ?_
     replace hx:=q▸hx
     simp only [fb,i8] at hx
     by_cases hc:(k==fc&&F.env.kindOf x==some fG)=true
     ·simp only [dk,beq_iff_eq] at hc;exact .inr hc.1
     ·replace hx:=if_neg hc▸hx;exact hx
   obtain ⟨k,hk,rfl | rfl⟩:=hx'
   ·exact bW.mp (fN _ _ _ (.inl hk))
   ·exact aM (nY O S hk) λ c V h=>⟨c,by refine (?_:(dg _ _ _).lookup x=_);rewrite [mD O S hk];exact af h rfl⟩
 have newdict:(ku (s.heap.push {cls:=.type "dict",data:=.dict #[]}) sc.names).Ns s.heap.objs.size (λ V=>none):=d4 (Heap.Ns.new s.heap (.type "dict")) λ o e=>vV _ _ _ _ e
 have Vi:=R.size_none
 have fresh:∀a,s.heap.objs.size<=a->F.h₀.get? a=none/\U.get a=none/\a≠F.L/\(∀p∈Z,p.1≠a)/\(∀b∈F.ownA,b≠a):=λ a ha=>by
  refine pt ?_ ?_ ?_ ?_ ?_
  ·cases q:F.h₀.get? a with
   | none=>rfl
   | some o=>exact absurd (bz (R.keep _ _ q)) (fp.mpr ha)
  ·cases q:U.get a with
   | none=>rfl
   | some o=>exact absurd (live _ (R.sg _ _ q).1) (fp.mpr ha)
  ·rintro rfl;exact aS R.L_live λ o h=>(absurd (bz h) (fp.mpr ha))
  ·intro p hp e;exact absurd (bz (R.zz p hp).1) (ah e (fp.mpr ha))
  ·intro b hb e;exact absurd (live _ (R.own b hb).1) (ah e (fp.mpr ha))
 have ownC:∀a∈(Fc F sc s.heap.objs.size mL).ownA,(∃p∈dT F.cells sc.names [],p.2=a)\/(s.heap.objs.size<=a/\∃o,(ku (s.heap.push {cls:=.type "dict",data:=.dict #[]}) sc.names).get? a=some o):=by
  intro a ha
  simp only [c_.ownA,gQ,if_true,aw,aJ,al] at ha
  rcases ha with ⟨p,hp,rfl⟩ | rfl
  ·rcases blk p hp with h | ⟨h1,⟨o,h2,_⟩⟩
   ·exact .inl ⟨p,h,rfl⟩
   ·exact .inr ⟨pY h1,o,h2⟩
  ·refine pz newdict λ o V V h V=>?_;clear newdict
   exact .inr ⟨az _,o,h⟩
 refine pn mL Zx O' (λ p hp=>(memZx.mp hp).1.1) ?_ ?_
 ·refine ⟨R.core.upd (tk:=s.toks),⟨mL,FR.keeps keep⟩,λ ml e=>by clear O' ownC;have QW:=sI e;clear e;subst QW;exact FR.ns.keeps keep,⟨_,newdict⟩,?_,?_,?_,?_,?_,R.sm⟩
  ·intro x v hx
   unfold iJ at hx
   split at hx
   ·rename_i hf
    obtain ⟨a,a',cv,e,q⟩:=R.var x v hx
    refine aU (S.free _ ((ip S.nodup).mp hf) rfl) λ hk hcl=>?_
    simp only at hk
    refine ⟨a,a',cv,e,.inr ?_⟩
    rcases q with ⟨k,_⟩ | ⟨k,c,hc,hv⟩
    ·replace hk:=k▸hk;rcases hk with h | h<;>(have QY:=sI h;clear h;cases QY)
    ·refine ⟨?_,c,?_,cQ hv λ o e=>keep _ _ e⟩
     ·refine ((ah (gZ sc F.env O.ek x) (ah hf ?_)):(rN sc F.env).names.lookup x=_\/(rN sc F.env).names.lookup x=_)
      rcases k with k | k
      ·left;simp [k]
      ·right;simp [k]
     ·refine (?_:(dg _ _ _).lookup x=_)
      rewrite [mD O S hf]
      (try clear hv);refine aM (nY O S hf) λ c' h1 h2=>?_
      replace h1:=hc▸h1;clear hc;have Rb:=sI h1;clear h1;subst Rb;exact h2
   ·exact (bw hx).elim
  ·intro p hp
   rcases blk p hp with h | ⟨_,h⟩
   ·exact aS (R.cel _ (mem_of_lookup (Sr p h))) λ cv h=>⟨cv,cQ h λ o e=>keep _ _ e⟩
   ·exact ⟨_,h⟩
  ·intro a ha
   rcases ownC a ha with ⟨p,hp,rfl⟩ | ⟨h,ho⟩
   ·refine cu (R.own _ (closOwn p hp)) λ Q8 b c=>(cu Q8 λ RW l2 l3=>?_);clear Q8;obtain ⟨o,l1⟩:=RW
    refine du ⟨⟨o,keep _ _ l1⟩,l2,l3⟩ b (λ q hq=>?_)
    rcases aw.mp hq with hq | hq
    ·exact c q hq
    ·exact λ e=>(memZx.mp hq).1.2 p hp e.symm
   ·refine sx (fresh a h) λ f1 f2 f3 f4 f5=>(du ⟨ho,f3,f1⟩ f2 (λ q hq=>?_))
    rcases aw.mp hq with hq | hq
    ·exact f4 q hq
    ·exact f5 _ (memZx.mp hq).1.1
  ·intro p hp
   rcases aw.mp hp with hp | hp
   ·exact fD (R.zz p hp) λ a b c d=>(gN (keep _ _ a) b c d)
   ·refine aU (memZx.mp hp) λ Rc h2=>(aU Rc λ h1 V=>?_);clear Rc
    refine cu (R.own _ h1) λ Rp b V=>(cu Rp λ V l2 l3=>?_);clear Rp
    exact gN (keep _ _ h2) l2 l3 b
  ·intro a o e
   refine aU (R.sg a o e) λ Q7 q=>(cu Q7 λ RV l2 l3=>?_);clear Q7;obtain ⟨ob,h⟩:=RV
   exact ⟨⟨⟨ob,keep _ _ h⟩,l2,l3⟩,q.keep λ o e=>keep _ _ e⟩
 ·intro s' Z' V7 U' R' hx hZ
  refine aS R'.fr λ To UL =>?_
  have nsL:s'.heap.Ns F.L mL:=R'.inn mL rfl
  have ownKeep:∀a∈F.ownA,(∀q∈dT F.cells sc.names [],q.2≠a)->∀o,s.heap.get? a=some o->s'.heap.get? a=some o:=λ a ha hn o e=>
   (R'.zz (a,o) (hx _ (memZx.mpr ⟨⟨ha,hn⟩,e⟩))).1
  have locOff:F.oL.isSome=true->∀q∈dT F.cells sc.names [],q.2≠F.env.locals:=λ h q hq=>O.cloc _ (mem_of_lookup (Sr q hq))
  have locKeep:∀ml,s.heap.Ns F.env.locals ml->s'.heap.Ns F.env.locals ml:=λ ml h=>by
   cases hl:F.oL with
   | none=>
    have e:=O.el hl
    rw [e] at h⊢
    exact ah (fC h FR.ns) nsL
   | some o=>exact d4 h λ ob e=>ownKeep _ (by simp [c_.ownA,hl]) (locOff (ah hl rfl)) ob e
  have capOwn:∀p∈dT F.cells sc.names [],p.2∈(Fc F sc s.heap.objs.size mL).ownA:=λ p hp=>by
   have hf:sc.names.lookup p.1=some .free:=by
    rcases kd _ _ p hp with h | h
    ·exact (ip S.nodup).mpr h
    ·cases h
   refine aM (nY O S hf) λ c h1 h2=>?_
   have:c=p.2:=by replace h1:=Sr p hp▸h1;exact (aO h1).symm
   (try clear h1);subst this
   have:=mem_of_lookup ((mD O S hf (s.heap.objs.size+1)).trans h2)
   simp only [c_.ownA,aw,aJ]
   exact .inl ⟨_,this,rfl⟩
  refine ⟨R'.core,⟨mL,nsL,UL.keep,UL.above⟩,λ ml e=>?_,?_,λ x v hv=>?_,λ x hx' =>?_,λ a ha=>?_,λ p hp=>?_,R'.sg,R'.sm⟩
  ·exact ah (fC (R.inn ml e) FR.ns) nsL
  ·exact aS R.loc λ ml h=>⟨ml,locKeep ml h⟩
  ·obtain ⟨a,a',cv,e,q⟩:=R.var x v hv
   rcases q with ⟨k,ml,hm,RP⟩ | ⟨k,c,hc,RP⟩
   ·exact ⟨a,a',cv,e,.inl ⟨k,ml,locKeep ml hm,RP⟩⟩
   ·by_cases hcap:∃q∈dT F.cells sc.names [],q.2=c
    ·(try clear RP);refine aM hcap λ q hq Rf=>?_;clear hcap;subst Rf
     have hqx:q.1=x:=DR O.capart (mem_of_lookup (Sr q hq)) (mem_of_lookup hc)
     have hf:sc.names.lookup x=some .free:=by
      rcases kd _ _ q hq with h | h
      ·replace h:=hqx▸h;exact (ip S.nodup).mpr h
      ·cases h
     have hcm:iJ sc m x=some v:=by unfold iJ;exact af (if_pos hf) hv
     obtain ⟨_,_,TD,e',q'⟩:=R'.var x v hcm
     rcases q' with ⟨k',_⟩ | ⟨_,c',RQ,Wh⟩
     ·exfalso
      change (rN sc F.env).names.lookup x=_ at k'
      replace k' :=hf▸gZ sc F.env O.ek x▸k'
      simp only [fb] at k'
      split at k' <;>(have Rd:=sI k';clear k';cases Rd)
     ·change (dg _ _ _).lookup x=_ at RQ
      rewrite [mD O S hf] at RQ
      refine aM (nY O S hf) λ ZE h1 h2=>?_
      replace h1:=hc▸h1;have Rn:=sI h1;clear h1;subst Rn
      replace RQ :=h2▸RQ;have Rm:=sI RQ;clear RQ;subst Rm
      exact ⟨a,a',TD,e',.inr ⟨k,q.2,hc,Wh⟩⟩
    ·exact ⟨a,a',cv,e,.inr ⟨k,c,hc,cQ RP λ o e=>ownKeep _ (by simp [c_.ownA];exact .inl ⟨_,mem_of_lookup hc⟩) (λ q hq e=>hcap ⟨q,hq,e⟩) o e⟩⟩
  ·by_cases hcap:∃q∈dT F.cells sc.names [],q.2=x.2
   ·refine aM hcap λ q hq e=>?_;clear hcap
    have:=capOwn q hq
    replace this:=e▸this
    have hcells:∃p∈(Fc F sc s.heap.objs.size mL).cells,p.2=x.2:=by
     simp only [c_.ownA,gQ,if_true,aw,aJ,al] at this
     rcases this with ⟨p,hp,e'⟩ | e'
     ·exact cC p hp e'
     ·exfalso
      have:=closLt q hq
      replace this:=e' ▸e▸this
      exact absurd this (bP _)
    refine aM hcells λ p hp e' =>?_;clear hcells
    exact aS (R'.cel p hp) λ cv h=>⟨cv,e' ▸h⟩
   ·exact aS (R.cel x hx') λ cv h=>⟨cv,cQ h λ o e=>ownKeep _ (by simp [c_.ownA];exact .inl ⟨_,hx'⟩) (λ q hq e=>hcap ⟨q,hq,e⟩) o e⟩
  ·refine cu (R.own a ha) λ RA b c=>(cu RA λ S9 l2 l3=>?_);clear RA;obtain ⟨o,l1⟩:=S9
   by_cases hcap:∃q∈dT F.cells sc.names [],q.2=a
   ·clear b c l1 l2 l3;refine aM hcap λ q hq RN=>?_;clear hcap;subst RN
    exact cu (R'.own _ (capOwn q hq)) λ l b' V=>(du l b' (λ p hp=>(hZ p hp).2 _ ha))
   ·have hk:=ownKeep a ha (λ q hq e=>hcap ⟨q,hq,e⟩) o l1
    exact du ⟨⟨o,hk⟩,l2,l3⟩ ((R'.zz (a,o) (hx _ (memZx.mpr ⟨⟨ha,λ q hq e=>hcap ⟨q,hq,e⟩⟩,l1⟩))).2.2.2) (λ p hp=>(hZ p hp).2 _ ha)
  ·rcases (hZ p hp).1 with h | ⟨e,h⟩
   ·exact R'.zz p h
   ·refine cu (R'.own p.1 (by simp only [c_.ownA,gQ,if_true,aw,al];exact .inr e)) λ RF b V=>(cu RF λ V l2 l3=>?_);clear RF
    exact gN h l2 l3 b
end
end
end
section
section
variable{C:Cx}{F:c_}{n:Nat}{m:Str->Option Value}{U U' :AH}{Z Y Y' :List (Addr×Obj)}{s s' :aE}{sc:Scope}
theorem ta{E:Value->aE->Prop}{Q:Env->aE->Prop}
  (h:Q {scope:=sc,locals:=s.heap.objs.size,globals:=env.globals,cells:=dg (s.heap.objs.size+1) sc.names cl,qual:=qual,func:=none,code:=env.code,frame:=env.frame,builtins:=env.builtins}
   {s with heap:=ku (s.heap.push {cls:=.type "dict",data:=.dict #[]}) sc.names}):
  br M A (OE sc env.globals cl [] qual none .none (some env) b) Q E s:=by
 simp only [OE,gQ,if_true]
 exact ax (wpAny_alloc (ax (wpAny_layCells _ (λ name kind cells=>by cases VO:kind==fG<;>simp [VO]) _ _ _ _ (ah (show ({s with heap:=s.heap.push {cls:=.type "dict",data:=.dict #[]}}:aE).heap.objs.size=s.heap.objs.size+1 from jQ ..) (ax (aZ (aZ h)))))))
theorem cj.adopt(O:F.Ok C n)(R:cj C F (Z++[(a,ob)]) s m U)(hz:∀p∈Z,p.1≠a)(h3:3<a)(hA:At C s.heap a ao):cj C F Z s m (U.put a ao):=by
 refine fD (R.zz (a,ob) (ai _ (aN _))) λ z1 z2 z3 z4=>⟨R.core,R.fr,R.inn,R.loc,R.var,R.cel,λ b hb=>?_,λ p hp=>?_,λ b o e=>?_,λ b o e=>?_⟩
 ·exact cu (R.own b hb) λ l x y=>(du l (af (AH.get_put_ne (gk (y (a,ob) (ai _ (aN _))))) x) (λ p hp=>y p (ak _ hp)))
 ·exact fD (R.zz p (ak _ hp)) λ x y z w=>(gN x y z (af (AH.get_put_ne (hz p hp)) w))
 ·replace e:=(AH.get_put ..)▸e
  split at e
  ·rename_i q;clear R h3 hz z4;subst q;have QI:=sI e;clear e;subst QI
   exact ⟨⟨⟨_,z1⟩,z2,z3⟩,hA⟩
  ·exact R.sg b o e
 ·replace e:=(AH.get_put ..)▸e
  split at e
  ·rename_i q;exact ah q h3
  ·exact R.sm b o e
theorem oQ{α:Type}{y0:α}{Acc:Obj->α->Prop}{aoOf:α->aT}
  {emit:Addr->Env->Sem Unit} {E:c_->α->(Str->Option Value)->AH->(α->AH->Prop)->Prop} {Vw:Option (Value->Sem Unit)} {QQ:Value->aE->Prop} {Q' :α->AH->Prop} {P:Value->AH->Prop}
  (O:F.Ok C n) (R:cj C F Z s m U) (S:pR F sc) (hcl:Mz e=gens) (UA:gens=g::gs) (Yb:g.is_async=0) (hs:∀x,cP g.iter F.env x=dG x)
  (W:∀QD env,i7 e gens (emit QD env) QD env) (hE:∀F' QD,t7 C F' n (emit QD F'.env) QD Acc (E F'))
  (hnew:∀{s:aE} {Q:Value->aE->Prop},Q (.ref s.heap.objs.size) {s with heap:=s.heap.push ob0}->br (bL C.prog C.w) F.A newAcc Q (λ V V=>False) s) (hf0:ob0.isFreed=false) (h0:Acc ob0 y0)
  (YI:∀h a ob y,h.get? a=some ob->Acc ob y->At C h a (aoOf y))
  (h:WE C F n g.iter m U P)
  (Vc:∀x U1 Z s,cj C F Z s m U1->P x U1->∃QB,cj C F Z s m QB/\∃(Sa:α->AH->Prop) (a:Addr) (ao:aT) (xs:List Value),x=.ref a/\eK ao=some xs/\QB.sees a ao/\
   (∀L2 mL,Ho C (Fc F sc L2 mL) n g (CG C (Fc F sc L2 mL) n (E (Fc F sc L2 mL)) gs) a ao xs y0 (iJ sc m) QB Sa)/\
   ∀y U' Z s',cj C F Z s' m U' ->Sa y U' ->∃SZ,cj C F Z s' m SZ /\Q' y SZ)
  (hQ:∀QD y U' L2 oL s',cj C F (Z++[(L2,oL)]) s' m (U'.put QD (aoOf y))->(∀p∈Z,L2≠p.1)->(∃ml,s'.heap.Ns L2 ml)->U'.get QD=none->Q' y U' ->
   compPost (bL C.prog C.w) F.A (λ V V=>False) Vw QQ (.ref QD) L2 (.ok .next) s'):
  br (bL C.prog C.w) F.A (qp e sc F.env pos newAcc false (fF g.iter F.env) Vw) QQ (λ V V=>False) s:=by
 subst hcl
 have hfr:∀x∈sc.names,x.2=.free->∃c,F.cells.lookup x.1=some c:=λ x hx hf=>aU (S.free x hx hf) λ hk hc=>(O.cok _ hk hc)
 refine wpAny_comprehension_free UA hs (rB λ x hx hf=>?_) S.kind (λ x hx hl=>dI hl ((ip S.nodup).mpr hx)) ?_
 ·exact aS (hfr x hx hf) λ c h=>⟨c,O.csub _ _ h⟩
 have ecl:dT F.env.cells sc.names []=dT F.cells sc.names []:=jK _ _ λ x hx hf=>aS (hfr x hx hf) λ c h=>(ah h (af (O.csub _ _ h) rfl))
 refine ah ecl (h O Z s _ R λ x s₁ U1 R₁ hp=>?_)
 obtain ⟨QB,R₂,Sa,a,ao,xs,ex,hi,hsee,YG,Rk⟩:=Vc _ _ _ _ R₁ hp
 refine jz ex (wD hi (R₂.smS hsee) _ _ _ _ (R₂.atS hsee) λ Rt P' RK hf hit R_ TV=>?_)
 generalize hI:s₁.heap.objs.size=I at hit⊢
 have newI:s₁.heap.get? I=none:=hI▸R₂.size_none
 have R₃:cj C F (Z++[(I,Rt)]) {s₁ with heap:=s₁.heap.push Rt} m QB:=
  cj.stepZ (s' :={s₁ with heap:=s₁.heap.push Rt}) (Y:=[]) (Y' :=[(I,Rt)]) O R₂.nilZ ⟨R₂.core.gens,R₂.core.os,R₂.core.dr⟩ (λ b o V e=>aW Rt e)
   (λ p hp=>ah (al.mp hp) ⟨dI hI (cf _ hf),.inr newI⟩) (λ p V q hq=>absurd hq (dU))
 have zI:∀p∈Z,I≠p.1:=λ p hp e=>by have:=(R₂.zz p hp).1;replace this:=newI▸dE e▸this;exact (bw this).elim
 refine hnew ?_
 generalize hs2:({s₁ with heap:=s₁.heap.push Rt}:aE)=s₂ at R₃⊢
 generalize hacc:s₂.heap.objs.size=QD
 have newA:s₂.heap.get? QD=none:=hacc▸R₃.size_none
 have accTop:3<QD:=hacc▸R₃.top O
 have R4:cj C F ((Z++[(I,Rt)])++[(QD,ob0)]) {s₂ with heap:=s₂.heap.push ob0} m QB:=
  cj.stepZ (s' :={s₂ with heap:=s₂.heap.push ob0}) (Y:=[]) (Y' :=[(QD,ob0)]) O R₃.nilZ ⟨R₃.core.gens,R₃.core.os,R₃.core.dr⟩ (λ b o V e=>aW ob0 e)
   (λ p hp=>ah (al.mp hp) ⟨dI hacc (cf _ hf0),.inr newA⟩) (λ p V q hq=>absurd hq (dU))
 have zA:∀p∈Z++[(I,Rt)],p.1≠QD:=λ p hp e=>by have:=(R₃.zz p hp).1;replace this:=newA▸e▸this;exact (bw this).elim
 generalize hs3:({s₂ with heap:=s₂.heap.push ob0}:aE)=s₃ at R4⊢
 refine ta (jk (R4.block O S) λ mL Zx O' V9 R5 back=>?_)
 generalize hL2:s₃.heap.objs.size=L2 at O' R5 back⊢
 have zL:∀p∈(Z++[(I,Rt)])++[(QD,ob0)],p.1≠L2:=λ p hp e=>by
  have:=bz (R4.zz p hp).1
  replace this:=e▸hL2▸this;exact absurd this (bP _)
 have zx:∀p∈Zx,∀q∈(Z++[(I,Rt)])++[(QD,ob0)],q.1≠p.1:=λ p hp q hq=>(R4.own _ (V9 p hp)).2.2 q hq
 have mI:(I,Rt)∈(Z++[(I,Rt)])++[(QD,ob0)]:=ak _ (ai _ (aN _))
 have mA:(QD,ob0)∈(Z++[(I,Rt)])++[(QD,ob0)]:=ai _ (aN _)
 have R6:cj C (Fc F sc L2 mL) (((Z++Zx)++[(I,Rt)])++[(QD,ob0)]) {s₃ with heap:=ku (s₃.heap.push {cls:=.type "dict",data:=.dict #[]}) sc.names} (iJ sc m) QB:=
  R5.memZ λ p hp=>by
   simp only [aw,al] at hp⊢
   rcases hp with ((h | h) | h) | h<;>simp [h]
 refine nW (YG L2 mL) λ J YC Yz Yy YA=>?_
 have hg0:(Mz e)[0]? =some g:=ah UA rfl
 have run:=vj (F:=Fc F sc L2 mL) O' (W QD (Fc F sc L2 mL).env) hg0 Yb (Ch (F:=Fc F sc L2 mL) O' (W QD _) (hE (Fc F sc L2 mL) QD) gs 0 g (ah UA rfl))
  hit R_ TV (Z:=Z++Zx) (λ p hp=>by
   rcases aw.mp hp with hp | hp
   ·exact zI p hp
   ·exact zx p hp _ mI) (zA (I,Rt) (ai _ (aN _))) YC Yz Yy YA R6 (λ p hp=>by
   rcases aw.mp hp with hp | hp
   ·exact zA p (ak _ hp)
   ·exact (zx p hp _ mA).symm) h0
 refine f_ run λ r s' Q4=>(aM Q4 λ f hr QL=>?_);clear Q4;refine vg QL λ Q6 y' U' R7 UU hq=>?_;clear QL
 subst hr
 refine aS R7.loc λ Xy W4=>(pz (id W4) λ oL Zt Zw hoL hrest=>?_)
 have R8:cj C F ((Z++[(L2,oL)])++[(QD,Q6)]) s' m U' :=by
  refine back s' _ _ U' R7 (λ p hp=>ak _ (ai _ hp)) λ p hp=>?_
  simp only [aw,al] at hp
  rcases hp with (hp | rfl) | rfl
  ·exact ⟨.inl (by simp [hp]),λ a ha=>(R4.own a ha).2.2 p (ak _ (ak _ hp))⟩
  ·refine ⟨.inr ⟨rfl,hoL⟩,λ a ha e=>(aU (R4.own a ha) λ QT V=>(aU QT λ Rd V=>?_))⟩;clear QT;obtain ⟨o,h⟩:=Rd
   have:=bz h
   replace this:=dE e▸hL2▸this;exact absurd this (bP _)
  ·exact ⟨.inl (by simp),λ a ha=>(R4.own a ha).2.2 (QD,ob0) mA⟩
 refine aM (Rk _ _ _ _ R8 hq) λ SZ R9 VL =>?_
 have hacc' :s'.heap.get? QD=some Q6 :=(R9.zz _ (ai _ (aN _))).1
 have hL2a:L2≠QD:=(zL _ mA).symm
 have Y0:=R9.adopt O (ao:=aoOf y') (λ p hp=>by
  rcases aw.mp hp with hp | hp
  ·exact zA p (ak _ hp)
  ·exact ah (al.mp hp) hL2a) accTop (YI _ _ _ _ hacc' UU)
 have:=hQ QD y' SZ L2 oL s' Y0 (λ p hp=>(zL p (ak _ (ak _ hp))).symm) ⟨Xy,W4⟩ (R9.zz _ (ai _ (aN _))).2.2.2 VL
 (try clear hQ);cases Vw with
 | none=>exact this
 | some u=>exact this
noncomputable def Jl(ob:Obj)(ys:List Value):Prop:=∃(vs:List Value) (c:Nat),ob=listOf vs.toArray c/\vs.map er=ys
noncomputable def EL(C:Cx)(n:Nat)(QO:Expr)(F' :c_)(ys:List Value)(m:Str->Option Value)(U:AH)(Q:List Value->AH->Prop):Prop:=
 ys.length<=10000000/\WE C F' n QO m U λ r U' =>Q (ys++[r]) U'
theorem vd(QO:Expr)(F' :c_)(QD:Addr):t7 C F' n (sv QO (.ref QD) F'.env) QD Jl (EL C n QO F'):=by
 intro O y m U Q Z s ob ⟨hz,h⟩ R hza hA
 unfold sv
 refine ax (h O _ s _ R λ r s₁ U1 R₁ q=>?_)
 (try clear R);refine ck hA λ vs c QW e=>?_;clear hA;subst QW
 have ho:s₁.heap.get? QD=some (listOf vs.toArray c):=(R₁.zz _ (ai _ (aN _))).1
 refine ax (append_at (hsz:=?_) ho λ h' hs ho' =>aZ ⟨listOf (vs++[r]).toArray (c+1),y++[er r],U1,?_,⟨_,_,rfl,af aD (ah e rfl)⟩,q⟩)
 ·refine cj.stepZ (s' :={s₁ with heap:=h' }) (Y:=[(QD,listOf vs.toArray c)]) (Y' :=[(QD,listOf (vs++[r]).toArray (c+1))]) O R₁ ⟨R₁.core.gens,R₁.core.os,R₁.core.dr⟩
   (λ b o nb e=>(hs.2 b (λ q=>nb _ (aN _) q.symm)).trans e) (λ p hp=>?_) (λ p hp q hq=>?_)
  ·refine ah (al.mp hp) (⟨(af ho' ?_),.inl ⟨_,aN _,rfl⟩⟩);simp
  ·exact ah (al.mp hq) ((hza p hp).symm)
 ·have:=dw e
  exact ah bo (ah cB (ac (aC this) (ac hz (aj _ _))))
theorem sk(QO gens sc pos):(∀d it QD env,(go (.ListComp QO gens sc pos) d it QD env).isFrame=false/\(go (.ListComp QO gens sc pos) d it QD env).weight=0/\(go (.ListComp QO gens sc pos) d it QD env).cUnits=0)/\
  ∀d it QD env,(fj (.ListComp QO gens sc pos) d it QD env).isFrame=false/\(fj (.ListComp QO gens sc pos) d it QD env).weight=0/\(fj (.ListComp QO gens sc pos) d it QD env).cUnits=0/\(fj (.ListComp QO gens sc pos) d it QD env).quiet=true:=
 ⟨λ V V V V=>⟨rfl,rfl,rfl⟩,λ V V V V=>⟨rfl,rfl,rfl,rfl⟩⟩
theorem yA(QO gens sc pos)(QD:Addr)(env:Env):i7 (.ListComp QO gens sc pos) gens (sv QO (.ref QD) env) QD env:=
 ⟨rfl,λ d g it h=>xg h,(sk QO gens sc pos).1,(sk QO gens sc pos).2⟩
theorem ph{E:Value->aE->Prop}{Q:Value->aE->Prop}(h:Q (.ref s.heap.objs.size) {s with heap:=s.heap.push (listOf #[] 0)}):br M A (P7 []) Q E s:=AB h (by decide)
theorem cj.letGo(O:F.Ok C n)(R:cj C F (Z++[(L2,oL)]) s m U)(hz:∀p∈Z,L2≠p.1)(hs:gx L2 s.heap h'):cj C F Z {s with heap:=h' } m U:=
 cj.dropZ (Y:=[]) (cj.stepZ (s' :={s with heap:=h' }) (Y:=[(L2,oL)]) (Y' :=[]) O R ⟨R.core.gens,R.core.os,R.core.dr⟩ (λ b o nb e=>(hs.2 b (λ q=>nb _ (aN _) q.symm)).trans e) (λ p hp=>nomatch hp)
  (λ p hp q hq=>ah (al.mp hq) (hz p hp)))
noncomputable def LC(C:Cx)(F:c_)(n:Nat)(QO:Expr)(g:bS)(gs:List bS)(sc:Scope)(x:Value)(m:Str->Option Value)(U:AH)(Q:List Value->AH->Prop):Prop:=
 ∃(a:Addr) (ao:aT) (xs:List Value),x=.ref a/\eK ao=some xs/\U.sees a ao/\∀L2 mL,Ho C (Fc F sc L2 mL) n g (CG C (Fc F sc L2 mL) n (EL C n QO (Fc F sc L2 mL)) gs) a ao xs [] (iJ sc m) U Q
noncomputable def PZ(C:Cx)(F:c_)(n:Nat)(QO:Expr)(g:bS)(gs:List bS)(sc:Scope)(x:Value)(m:Str->Option Value)(U:AH)(Q:List Value->AH->Prop):Prop:=
 ∃(d:Addr) (kvs:List (Int×Value)),x=.ref d/\U.get d=some (.dict kvs)/\∀o L2 mL,Ho C (Fc F sc L2 mL) n g (CG C (Fc F sc L2 mL) n (EL C n QO (Fc F sc L2 mL)) gs) d (.ro o (.dict kvs)) (kvs.map λ p=>vi p.1) [] (iJ sc m) (U.put d (.ro o (.dict kvs)))
  λ ys U' =>U'.get d=some (.ro o (.dict kvs))/\Q ys (U'.put d (.dict kvs))
noncomputable def M2(C:Cx)(F:c_)(n:Nat)(QO:Expr)(g:bS)(gs:List bS)(sc:Scope)(x:Value)(m:Str->Option Value)(U:AH)(Q:List Value->AH->Prop):Prop:=
 LC C F n QO g gs sc x m U Q\/PZ C F n QO g gs sc x m U Q
theorem yt(O:F.Ok C n){Q:List Value->AH->Prop}(x:Value)(U1:AH)(Z:List (Addr×Obj))(s:aE)(R:cj C F Z s m U1)(h:M2 C F n QO g gs sc x m U1 Q):
  ∃QB,cj C F Z s m QB/\∃(Sa:List Value->AH->Prop) (a:Addr) (ao:aT) (xs:List Value),x=.ref a/\eK ao=some xs/\QB.sees a ao/\
   (∀L2 mL,Ho C (Fc F sc L2 mL) n g (CG C (Fc F sc L2 mL) n (EL C n QO (Fc F sc L2 mL)) gs) a ao xs [] (iJ sc m) QB Sa)/\
   ∀y U' Z s',cj C F Z s' m U' ->Sa y U' ->∃SZ,cj C F Z s' m SZ /\Q y SZ :=by
 rcases h with ⟨a,ao,xs,e,hi,hs,h⟩ | ⟨d,kvs,e,hd,h⟩
 ·exact ⟨U1,R,Q,a,ao,xs,e,hi,hs,h,λ y U' Z s' R q=>⟨U',R,q⟩⟩
 ·exact aS (R.lock O hd) λ o R' =>⟨_,R',_,d,_,_,e,rfl,.inl (AH.get_put_self _ _ _),h o,λ y U' Z s' R QY=>by refine aU QY λ q1 q2=>?_;clear QY;exact cC _ (R.unlock O q1) q2⟩
theorem vK{pos:Pos}{Q:Value->AH->Prop}(S:pR F sc)(hs:∀x,cP it F.env x=dG x)
  (h:WE C F n it m U λ x U1=>M2 C F n QO ⟨t,it,ifs,0⟩ gs sc x m U1 λ ys U' =>∀b,U'.get b=none->Q (.ref b) (U'.put b (.list ys))):WE C F n (.ListComp QO (⟨t,it,ifs,0⟩::gs) sc pos) m U Q:=λ O Z s W R K=>by
 refine ((oQ (g:=⟨t,it,ifs,0⟩) (gs:=gs) (Acc:=Jl) (ob0:=listOf #[] 0) (y0:=[]) (aoOf:=.list) (emit:=λ QD env=>sv QO (.ref QD) env) (E:=EL C n QO) O R S rfl rfl rfl hs (λ QD env=>yA _ _ _ _ QD env)
  (λ F' QD=>vd QO F' QD) (λ h=>ph h) rfl ⟨[],0,rfl,rfl⟩ (λ h a ob y e Rb=>by refine ck Rb λ vs c q e' =>?_;clear Rb;exact iI vs c (af e (ah q rfl)) e') h (yt O) λ QD y U' L2 oL s' R' hz hns hf hq=>?_):br _ _ (qp _ sc F.env _ (P7 []) false (fF it F.env)) _ _ s)
 exact aS hns λ ml hns=>(cC ml hns (λ h' hs' =>(K _ _ _ (R'.letGo O hz hs') (hq QD hf))))
theorem vP{gs:List bS}{Q:fH->(Str->Option Value)->AH->Prop}
  (SW:iE (.ListComp QO (⟨t,it,ifs,0⟩::gs) sc pos') (some (.Name x p')) pos.line F.env=dG true) (Sx:Stores F x) (S:pR F sc) (hs:∀x,cP it F.env x=dG x)
  (h:WE C F n it m U λ V' U1=>M2 C F n QO ⟨t,it,ifs,0⟩ gs sc V' m U1 λ ys U' =>∀b,U'.get b=none->Q .next (fe m x (.ref b)) (U'.put b (.list ys))):
  W1 C F n (.Assign [.Name x p'] (.ListComp QO (⟨t,it,ifs,0⟩::gs) sc pos') pos) m U Q:=λ O Z s W R K=>by
 refine ah (exec_Assign_Name_used _ _ _ _ SW) (sN (ax (d_ (ax (((ax (oQ (g:=⟨t,it,ifs,0⟩) (gs:=gs) (Acc:=Jl) (ob0:=listOf #[] 0) (y0:=[]) (aoOf:=.list) (emit:=λ QD env=>sv QO (.ref QD) env) (E:=EL C n QO) O R S rfl rfl rfl hs (λ QD env=>yA _ _ _ _ QD env)
  (λ F' QD=>vd QO F' QD) (λ h=>ph h) rfl ⟨[],0,rfl,rfl⟩ (λ h a ob y e Q8=>by refine ck Q8 λ vs c q e' =>?_;clear Q8;exact iI vs c (af e (ah q rfl)) e') h (yt O) λ QD y U' L2 oL s' R' hz hns hf hq=>?_)):br _ _ (do let _<-qp _ sc F.env _ (P7 []) false (fF it F.env) (some (jY (.Name x p') F.env))) _ _ s))))))
 refine rJ (ge O R' Sx λ RO Q9 =>(aS hns λ ml hns=>?_))
 have hoL:=(R'.zz _ (ai _ (aN _))).1
 have TH :=(Q9.zz _ (ai _ (aN _))).1
 simp only at hoL TH
 refine cC ml (d4 hns (λ o e=>by replace e:=hoL▸e;clear R' Q9 hoL;have Rc:=sI e;clear e;subst Rc;exact TH)) (λ h' hs' =>aZ (aZ (K _ _ _ _ (Q9.letGo O hz hs') (hq QD hf))))
noncomputable def Jm(C:Cx)(ob:Obj)(kvs:List (Int×Value)):Prop:=∃QK :List (Int×Value),ob.IsDictOf (eR C.prog C.w) QK /\QK.map (λ p=>(p.1,er p.2))=kvs
noncomputable def ED(C:Cx)(n:Nat)(k v:Expr)(F' :c_)(kvs:List (Int×Value))(m:Str->Option Value)(U:AH)(Q:List (Int×Value)->AH->Prop):Prop:=
 kvs.length<=10000000/\WE C F' n k m U λ kv U1=>WE C F' n v m U1 λ vv QB=>∃i,kv=vi i/\Q (cW kvs i vv) QB
theorem Cy(k v:Expr)(F' :c_)(QD:Addr):t7 C F' n (ve k v QD F'.env) QD (Jm C) (ED C n k v F'):=by
 intro O y m U Q Z s ob ⟨hz,h⟩ R hza ⟨QK,hk,e⟩
 unfold ve
 refine ax (h O _ s _ R λ kv s₁ U1 R₁ Wc=>ax (bR (Wc O _ s₁ _ R₁ λ vv s₂ QB R₂ Q4=>(aM Q4 λ i ei Wb=>?_))));clear Q4
 refine ax (d_ (bR (iU ei λ t=>?_)))
 have ho:s₂.heap.get? QD=some ob:=(R₂.zz _ (ai _ (aN _))).1
 have hm:s₂.heap.DictOf (eR C.prog C.w) QD QK :=md.mpr ⟨ob,ho,hk⟩
 have hl:QK.length=y.length:=dI e (ah (ae ..) rfl)
 refine wpAny_dictSet_pairs (lb C i t) hm (λ h' Ry hs=>?_) (ah cB (ac (aC hl) (ac hz (aj _ _))))
 refine aM (md.mp Ry) λ Q6 ho' hk' =>(CA Q6 (cW y i (er vv)) QB (cj.stepZ (s' :={s₂ with heap:=h',toks:=s₂.toks+1}) (Y:=[(QD,ob)]) (Y' :=[(QD,Q6)]) O R₂ ⟨R₂.core.gens,R₂.core.os,R₂.core.dr⟩
   (λ b o nb e=>(hs.2 b (λ q=>nb _ (aN _) q.symm)).trans e) (λ p hp=>?_) (λ p hp q hq=>?_)) ⟨_,hk',by rewrite [i_ er];exact ah e rfl⟩ Wb)
 ·exact ah (al.mp hp) ⟨ho',.inl ⟨_,aN _,rfl⟩⟩
 ·exact ah (al.mp hq) ((hza p hp).symm)
theorem Fy(k v gens sc pos)(QD:Addr)(env:Env):i7 (.DictComp k v gens sc pos) gens (ve k v QD env) QD env:=
 ⟨rfl,λ d g it h=>xh h,λ V V V V=>⟨rfl,rfl,rfl⟩,λ V V V V=>⟨rfl,rfl,rfl,rfl⟩⟩
noncomputable abbrev CJ:Obj:={cls:=.type "dict",data:=.dict #[]}
theorem uT{E:Value->aE->Prop}{Q:Value->aE->Prop}(h:Q (.ref s.heap.objs.size) {s with heap:=s.heap.push CJ}):br M A P8 Q E s:=by
 unfold P8
 exact JM h
theorem CH:Jm C CJ []:=by
 refine aM (md.mp (iB (knd:=eR C.prog C.w) ({}:fT))) λ o ho hk=>?_
 rewrite [cf _ rfl] at ho
 have Rp:=sI ho;clear ho;subst Rp
 exact cC [] hk rfl
noncomputable def DC(C:Cx)(F:c_)(n:Nat)(k v:Expr)(g:bS)(gs:List bS)(sc:Scope)(x:Value)(m:Str->Option Value)(U:AH)(Q:List (Int×Value)->AH->Prop):Prop:=
 ∃(a:Addr) (ao:aT) (xs:List Value),x=.ref a/\eK ao=some xs/\U.sees a ao/\∀L2 mL,Ho C (Fc F sc L2 mL) n g (CG C (Fc F sc L2 mL) n (ED C n k v (Fc F sc L2 mL)) gs) a ao xs [] (iJ sc m) U Q
noncomputable def P5(C:Cx)(F:c_)(n:Nat)(k v:Expr)(g:bS)(gs:List bS)(sc:Scope)(x:Value)(m:Str->Option Value)(U:AH)(Q:List (Int×Value)->AH->Prop):Prop:=
 ∃(d:Addr) (kvs:List (Int×Value)),x=.ref d/\U.get d=some (.dict kvs)/\∀o L2 mL,Ho C (Fc F sc L2 mL) n g (CG C (Fc F sc L2 mL) n (ED C n k v (Fc F sc L2 mL)) gs) d (.ro o (.dict kvs)) (kvs.map λ p=>vi p.1) [] (iJ sc m) (U.put d (.ro o (.dict kvs)))
  λ ys U' =>U'.get d=some (.ro o (.dict kvs))/\Q ys (U'.put d (.dict kvs))
noncomputable def Oy(C:Cx)(F:c_)(n:Nat)(k v:Expr)(g:bS)(gs:List bS)(sc:Scope)(x:Value)(m:Str->Option Value)(U:AH)(Q:List (Int×Value)->AH->Prop):Prop:=
 DC C F n k v g gs sc x m U Q\/P5 C F n k v g gs sc x m U Q
theorem FB(O:F.Ok C n){Q:List (Int×Value)->AH->Prop}(x:Value)(U1:AH)(Z:List (Addr×Obj))(s:aE)(R:cj C F Z s m U1)(h:Oy C F n k v g gs sc x m U1 Q):
  ∃QB,cj C F Z s m QB/\∃(Sa:List (Int×Value)->AH->Prop) (a:Addr) (ao:aT) (xs:List Value),x=.ref a/\eK ao=some xs/\QB.sees a ao/\
   (∀L2 mL,Ho C (Fc F sc L2 mL) n g (CG C (Fc F sc L2 mL) n (ED C n k v (Fc F sc L2 mL)) gs) a ao xs [] (iJ sc m) QB Sa)/\
   ∀y U' Z s',cj C F Z s' m U' ->Sa y U' ->∃SZ,cj C F Z s' m SZ /\Q y SZ :=by
 rcases h with ⟨a,ao,xs,e,hi,hs,h⟩ | ⟨d,kvs,e,hd,h⟩
 ·exact ⟨U1,R,Q,a,ao,xs,e,hi,hs,h,λ y U' Z s' R q=>⟨U',R,q⟩⟩
 ·exact aS (R.lock O hd) λ o R' =>⟨_,R',_,d,_,_,e,rfl,.inl (AH.get_put_self _ _ _),h o,λ y U' Z s' R Q7=>by refine aU Q7 λ q1 q2=>?_;clear Q7;exact cC _ (R.unlock O q1) q2⟩
theorem DE{pos:Pos}{Q:Value->AH->Prop}(S:pR F sc)(hs:∀x,cP it F.env x=dG x)
  (h:WE C F n it m U λ x U1=>Oy C F n k v ⟨t,it,ifs,0⟩ gs sc x m U1 λ ys U' =>∀b,U'.get b=none->Q (.ref b) (U'.put b (.dict ys))):WE C F n (.DictComp k v (⟨t,it,ifs,0⟩::gs) sc pos) m U Q:=λ O Z s W R K=>by
 refine ((oQ (g:=⟨t,it,ifs,0⟩) (gs:=gs) (Acc:=Jm C) (ob0:=CJ) (y0:=[]) (aoOf:=.dict) (emit:=λ QD env=>ve k v QD env) (E:=ED C n k v) O R S rfl rfl rfl hs (λ QD env=>Fy _ _ _ _ _ QD env)
  (λ F' QD=>Cy k v F' QD) (λ h=>uT h) rfl CH (λ h a ob y e Rf=>by refine aM Rf λ kvs q e' =>?_;clear Rf;exact cC kvs (md.mpr ⟨ob,e,q⟩) e') h (FB O) λ QD y U' L2 oL s' R' hz hns hf hq=>?_):br _ _ (qp _ sc F.env _ P8 false (fF it F.env)) _ _ s)
 exact aS hns λ ml hns=>(cC ml hns (λ h' hs' =>(K _ _ _ (R'.letGo O hz hs') (hq QD hf))))
end
end
section
noncomputable def O4(l:List Stmt)(i:Nat):Stmt:=match l.drop i with
 | s::_=>s
 | []=> .Return none ⟨0,0,0,0⟩
noncomputable def uH(i:Nat):Stmt:=O4 (PySem.Challenge.pw_nz0391_02).main.body i
noncomputable def mem(i j:Nat):Stmt:=match uH i with
 | .ClassDef _ _ _ b _ _ _ _ _ _ _=>O4 b j
 | s=>s
noncomputable def cK(s:String)(t:Tok):Value:=.str (aF s) t
noncomputable def de(P:fB)(s:String)(t:Tok)(v:Value):DictEntry:=Qk (rm P (aF s)) (cK s t) v
noncomputable def cd(a:Array Value):Obj:=fO (.type "code") none (m9 a) #[]
noncomputable def fo(st:Stmt)(q:String)(cl:List (Str×Addr))(pm:Value)(c:Addr)(ct:Value)(bi:Addr):Obj:=match st with
 | .FunctionDef n a b _ _ _ sc _ _ _=>fO (.type "function") none (.func (Qz n (aF q) a (.stmts b) sc 3 cl .none .none .none pm none (.ref c) ct bi)) #[]
 | _=>fO .none none (.fields #[]) #[]
noncomputable def KH(P:fB):Frag:=[
(2,fO .none none (nA #[de P "type.__subclasses__.Exception.0" 223 (.int 40 0),de P "type.__subclasses__.Exception.n" 224 (.int 1 0)] 2) #[]),
(3,fO (.type "dict") none (nA #[de P "__name__" 165 (cK "law_nz0391_02" 491),de P "__doc__" 166 .none,de P "__package__" 167 .none,de P "__loader__" 168 (.builtin "__main__.__loader__#opaque"),de P "__spec__" 169 .none,de P "__annotations__" 170 (.ref 6),de P "__builtins__" 171 (.ref 4),de P "__file__" 173 (cK "/claim/cut.py" 172),de P "__cached__" 174 .none,de P "FinderError" 226 (.ref 40),de P "LimitFault" 242 (.ref 53),de P "FIRST_SPAN" 246 (.int 16 245),de P "MOST_HEAT" 248 (.int 1000000000 247),de P "ordered" 257 (.ref 62),de P "Values" 319 (.ref 100),de P "Search" 490 (.ref 220),de P "_law_draw" 501 (.ref 229),de P "_law_clause" 507 (.ref 234),de P "_law_keeps" 513 (.ref 239),de P "_law_able" 519 (.ref 244),de P "_law_left" 525 (.ref 249),de P "_law_clashes" 531 (.ref 254),de P "_law_log_right" 537 (.ref 259),de P "_law_asked" 547 (.ref 266),de P "_law_answer_right" 553 (.ref 271),de P "law" 559 (.ref 276)] 26) #[]),
(18,fO (.type "cell") none (OT (some (.ref 40))) #[]),
(23,fO (.type "tuple") none (HI #[.ref 18]) #[]),
(29,cd #[cK "__init__" 201,cK "FinderError.__init__" 202,cK "/claim/cut.py" 203,.int 4 0,.int 2 0,.int 0 0,.int 0 0,.int 3 0,.ref 24,.bool true,.int 181 0,.ref 25,.none,.ref 26,.ref 27,.ref 28,.int 207 0,.int 4 0,cK "/claim/cut.py" 208]),
(30,fo (mem 1 0) "FinderError.__init__" [(aF "__class__",18)] (cK "relfinder.errors" 187) 29 (.ref 23) 0),
(39,fO (.type "dict") none (nA #[de P "__module__" 196 (cK "relfinder.errors" 187),de P "__firstlineno__" 200 (.int 2 199),de P "__init__" 209 (.ref 30),de P "told" 216 (.ref 37),de P "__static_attributes__" 218 (.ref 38),de P "__weakref__" 221 (.ref 41),de P "__doc__" 222 .none] 4) #[]),
(40,fO (.type "type") none (y9 (nB (aF "FinderError") [.type "Exception"] [.ref 40,.type "Exception",.type "BaseException",.type "object"] 39 (aF "FinderError") true [] [.ref 53] false none false)) #[some (.ref 15),none,some (cK "FinderError" 189),some (cK "FinderError" 197),some (.builtin "Exception.__new__"),some (.bool true)]),
(41,fO (.type "getset_descriptor") none (m9 #[cK "__weakref__" 220,.ref 40,.builtin "ExceptionGroup.__weakref__",.none]) #[]),
(52,fO (.type "dict") none (nA #[de P "__module__" 234 (cK "relfinder.errors" 187),de P "__firstlineno__" 238 (.int 10 237),de P "__static_attributes__" 239 (.ref 51),de P "__doc__" 240 .none] 2) #[]),
(53,fO (.type "type") none (y9 (nB (aF "LimitFault") [.ref 40] [.ref 53,.ref 40,.type "Exception",.type "BaseException",.type "object"] 52 (aF "LimitFault") true [] [] false none false)) #[some (.ref 44),none,some (cK "LimitFault" 227),some (cK "LimitFault" 235),some (.builtin "Exception.__new__"),some (.bool true)]),
(61,cd #[cK "ordered" 249,cK "ordered" 250,cK "/claim/cut.py" 251,.int 15 0,.int 1 0,.int 0 0,.int 0 0,.int 3 0,.ref 56,.bool true,.int 181 0,.ref 57,.none,.ref 58,.ref 59,.ref 60,.int 255 0,.int 15 0,cK "/claim/cut.py" 256]),
(62,fo (uH 6) "ordered" [] (cK "relfinder.solver" 243) 61 .none 0),
(75,cd #[cK "__init__" 270,cK "Values.__init__" 271,cK "/claim/cut.py" 272,.int 24 0,.int 1 0,.int 0 0,.int 0 0,.int 3 0,.ref 70,.bool true,.int 181 0,.ref 71,.none,.ref 72,.ref 73,.ref 74,.int 274 0,.int 24 0,cK "/claim/cut.py" 275]),
(76,fo (mem 7 0) "Values.__init__" [] (cK "relfinder.solver" 243) 75 .none 0),
(82,cd #[cK "says" 277,cK "Values.says" 278,cK "/claim/cut.py" 279,.int 33 0,.int 2 0,.int 0 0,.int 0 0,.int 3 0,.ref 77,.bool true,.int 181 0,.ref 78,.none,.ref 79,.ref 80,.ref 81,.int 283 0,.int 33 0,cK "/claim/cut.py" 284]),
(83,fo (mem 7 1) "Values.says" [] (cK "relfinder.solver" 243) 82 .none 0),
(89,cd #[cK "let" 286,cK "Values.let" 287,cK "/claim/cut.py" 288,.int 37 0,.int 3 0,.int 0 0,.int 0 0,.int 3 0,.ref 84,.bool true,.int 181 0,.ref 85,.none,.ref 86,.ref 87,.ref 88,.int 293 0,.int 37 0,cK "/claim/cut.py" 294]),
(90,fo (mem 7 2) "Values.let" [] (cK "relfinder.solver" 243) 89 .none 0),
(96,cd #[cK "back_to" 296,cK "Values.back_to" 297,cK "/claim/cut.py" 298,.int 44 0,.int 2 0,.int 0 0,.int 0 0,.int 3 0,.ref 91,.bool true,.int 181 0,.ref 92,.none,.ref 93,.ref 94,.ref 95,.int 302 0,.int 44 0,cK "/claim/cut.py" 303]),
(97,fo (mem 7 3) "Values.back_to" [] (cK "relfinder.solver" 243) 96 .none 0),
(99,fO (.type "dict") none (nA #[de P "__module__" 265 (cK "relfinder.solver" 243),de P "__firstlineno__" 269 (.int 22 268),de P "__init__" 276 (.ref 76),de P "says" 285 (.ref 83),de P "let" 295 (.ref 90),de P "back_to" 304 (.ref 97),de P "__static_attributes__" 312 (.ref 98),de P "__dict__" 314 (.ref 101),de P "__weakref__" 316 (.ref 102),de P "__doc__" 317 .none] 4) #[]),
(100,fO (.type "type") none (y9 (nB (aF "Values") [.type "object"] [.ref 100,.type "object"] 99 (aF "Values") true [] [.ref 220] false none false)) #[none,none,some (cK "Values" 258),some (cK "Values" 266),some (.builtin "object.__new__"),some (.bool true)]),
(101,fO (.type "getset_descriptor") none (m9 #[cK "__dict__" 313,.ref 100,.builtin "function.__dict__",.builtin "function.__dict__#set"]) #[]),
(102,fO (.type "getset_descriptor") none (m9 #[cK "__weakref__" 315,.ref 100,.builtin "ExceptionGroup.__weakref__",.none]) #[]),
(105,fO (.type "tuple") none (HI #[.ref 100]) #[]),
(108,fO (.type "cell") none (OT (some (.ref 220))) #[]),
(113,fO (.type "tuple") none (HI #[.ref 108]) #[]),
(117,cd #[cK "__init__" 332,cK "Search.__init__" 333,cK "/claim/cut.py" 334,.int 53 0,.int 3 0,.int 0 0,.int 0 0,.int 3 0,.ref 114,.bool true,.int 181 0,.ref 115,.none,.none,.none,.ref 116,.int 336 0,.int 53 0,cK "/claim/cut.py" 337]),
(118,fo (mem 8 0) "Search.__init__" [(aF "__class__",108)] (cK "relfinder.solver" 243) 117 (.ref 113) 0),
(122,cd #[cK "add_clause" 339,cK "Search.add_clause" 340,cK "/claim/cut.py" 341,.int 67 0,.int 2 0,.int 0 0,.int 0 0,.int 3 0,.ref 119,.bool true,.int 181 0,.ref 120,.none,.none,.none,.ref 121,.int 342 0,.int 67 0,cK "/claim/cut.py" 343]),
(123,fo (mem 8 1) "Search.add_clause" [] (cK "relfinder.solver" 243) 122 .none 0),
(129,cd #[cK "refute" 345,cK "Search.refute" 346,cK "/claim/cut.py" 347,.int 83 0,.int 1 0,.int 0 0,.int 0 0,.int 3 0,.ref 124,.bool true,.int 181 0,.ref 125,.none,.ref 126,.ref 127,.ref 128,.int 349 0,.int 83 0,cK "/claim/cut.py" 350]),
(130,fo (mem 8 2) "Search.refute" [] (cK "relfinder.solver" 243) 129 .none 0),
(136,cd #[cK "keep" 352,cK "Search.keep" 353,cK "/claim/cut.py" 354,.int 87 0,.int 2 0,.int 0 0,.int 0 0,.int 3 0,.ref 131,.bool true,.int 181 0,.ref 132,.none,.ref 133,.ref 134,.ref 135,.int 358 0,.int 87 0,cK "/claim/cut.py" 359]),
(137,fo (mem 8 3) "Search.keep" [] (cK "relfinder.solver" 243) 136 .none 0),
(143,cd #[cK "spread" 361,cK "Search.spread" 362,cK "/claim/cut.py" 363,.int 93 0,.int 1 0,.int 0 0,.int 0 0,.int 3 0,.ref 138,.bool true,.int 181 0,.ref 139,.none,.ref 140,.ref 141,.ref 142,.int 370 0,.int 93 0,cK "/claim/cut.py" 371]),
(144,fo (mem 8 4) "Search.spread" [] (cK "relfinder.solver" 243) 143 .none 0),
(150,cd #[cK "has_moved" 373,cK "Search.has_moved" 374,cK "/claim/cut.py" 375,.int 110 0,.int 3 0,.int 0 0,.int 0 0,.int 3 0,.ref 145,.bool true,.int 181 0,.ref 146,.none,.ref 147,.ref 148,.ref 149,.int 381 0,.int 110 0,cK "/claim/cut.py" 382]),
(151,fo (mem 8 5) "Search.has_moved" [] (cK "relfinder.solver" 243) 150 .none 0),
(155,cd #[cK "warm" 384,cK "Search.warm" 385,cK "/claim/cut.py" 386,.int 123 0,.int 2 0,.int 0 0,.int 0 0,.int 3 0,.ref 152,.bool true,.int 181 0,.ref 153,.none,.none,.none,.ref 154,.int 387 0,.int 123 0,cK "/claim/cut.py" 388]),
(156,fo (mem 8 6) "Search.warm" [] (cK "relfinder.solver" 243) 155 .none 0),
(162,cd #[cK "lesson" 390,cK "Search.lesson" 391,cK "/claim/cut.py" 392,.int 129 0,.int 2 0,.int 0 0,.int 0 0,.int 3 0,.ref 157,.bool true,.int 181 0,.ref 158,.none,.ref 159,.ref 160,.ref 161,.int 402 0,.int 129 0,cK "/claim/cut.py" 403]),
(163,fo (mem 8 7) "Search.lesson" [] (cK "relfinder.solver" 243) 162 .none 0),
(169,cd #[cK "height_of" 405,cK "Search.height_of" 406,cK "/claim/cut.py" 407,.int 149 0,.int 2 0,.int 0 0,.int 0 0,.int 3 0,.ref 164,.bool true,.int 181 0,.ref 165,.none,.ref 166,.ref 167,.ref 168,.int 410 0,.int 149 0,cK "/claim/cut.py" 411]),
(170,fo (mem 8 8) "Search.height_of" [] (cK "relfinder.solver" 243) 169 .none 0),
(176,cd #[cK "learn" 413,cK "Search.learn" 414,cK "/claim/cut.py" 415,.int 152 0,.int 2 0,.int 0 0,.int 0 0,.int 3 0,.ref 171,.bool true,.int 181 0,.ref 172,.none,.ref 173,.ref 174,.ref 175,.int 419 0,.int 152 0,cK "/claim/cut.py" 420]),
(177,fo (mem 8 9) "Search.learn" [] (cK "relfinder.solver" 243) 176 .none 0),
(181,cd #[cK "blame" 422,cK "Search.blame" 423,cK "/claim/cut.py" 424,.int 164 0,.int 2 0,.int 0 0,.int 0 0,.int 3 0,.ref 178,.bool true,.int 181 0,.ref 179,.none,.none,.none,.ref 180,.int 425 0,.int 164 0,cK "/claim/cut.py" 426]),
(182,fo (mem 8 10) "Search.blame" [] (cK "relfinder.solver" 243) 181 .none 0),
(188,cd #[cK "hottest" 428,cK "Search.hottest" 429,cK "/claim/cut.py" 430,.int 178 0,.int 1 0,.int 0 0,.int 0 0,.int 3 0,.ref 183,.bool true,.int 181 0,.ref 184,.none,.ref 185,.ref 186,.ref 187,.int 434 0,.int 178 0,cK "/claim/cut.py" 435]),
(189,fo (mem 8 11) "Search.hottest" [] (cK "relfinder.solver" 243) 188 .none 0),
(195,cd #[cK "decide" 437,cK "Search.decide" 438,cK "/claim/cut.py" 439,.int 186 0,.int 2 0,.int 0 0,.int 0 0,.int 3 0,.ref 190,.bool true,.int 181 0,.ref 191,.none,.ref 192,.ref 193,.ref 194,.int 444 0,.int 186 0,cK "/claim/cut.py" 445]),
(196,fo (mem 8 12) "Search.decide" [] (cK "relfinder.solver" 243) 195 .none 0),
(202,cd #[cK "solve" 447,cK "Search.solve" 448,cK "/claim/cut.py" 449,.int 202 0,.int 2 0,.int 0 0,.int 0 0,.int 3 0,.ref 197,.bool true,.int 181 0,.ref 198,.none,.ref 199,.ref 200,.ref 201,.int 458 0,.int 202 0,cK "/claim/cut.py" 459]),
(203,fo (mem 8 13) "Search.solve" [] (cK "relfinder.solver" 243) 202 .none 0),
(209,cd #[cK "value" 461,cK "Search.value" 462,cK "/claim/cut.py" 463,.int 221 0,.int 2 0,.int 0 0,.int 0 0,.int 3 0,.ref 204,.bool true,.int 181 0,.ref 205,.none,.ref 206,.ref 207,.ref 208,.int 466 0,.int 221 0,cK "/claim/cut.py" 467]),
(210,fo (mem 8 14) "Search.value" [] (cK "relfinder.solver" 243) 209 .none 0),
(216,cd #[cK "failed" 469,cK "Search.failed" 470,cK "/claim/cut.py" 471,.int 224 0,.int 1 0,.int 0 0,.int 0 0,.int 3 0,.ref 211,.bool true,.int 181 0,.ref 212,.none,.ref 213,.ref 214,.ref 215,.int 473 0,.int 224 0,cK "/claim/cut.py" 474]),
(217,fo (mem 8 15) "Search.failed" [] (cK "relfinder.solver" 243) 216 .none 0),
(219,fO (.type "dict") none (nA #[de P "__module__" 327 (cK "relfinder.solver" 243),de P "__firstlineno__" 331 (.int 51 330),de P "__init__" 338 (.ref 118),de P "add_clause" 344 (.ref 123),de P "refute" 351 (.ref 130),de P "keep" 360 (.ref 137),de P "spread" 372 (.ref 144),de P "has_moved" 383 (.ref 151),de P "warm" 389 (.ref 156),de P "lesson" 404 (.ref 163),de P "height_of" 412 (.ref 170),de P "learn" 421 (.ref 177),de P "blame" 427 (.ref 182),de P "hottest" 436 (.ref 189),de P "decide" 446 (.ref 196),de P "solve" 460 (.ref 203),de P "value" 468 (.ref 210),de P "failed" 475 (.ref 217),de P "__static_attributes__" 486 (.ref 218),de P "__doc__" 488 .none] 3) #[]),
(220,fO (.type "type") none (y9 (nB (aF "Search") [.ref 100] [.ref 220,.ref 100,.type "object"] 219 (aF "Search") true [] [] false none false)) #[some (.ref 105),none,some (cK "Search" 320),some (cK "Search" 328),some (.builtin "object.__new__"),some (.bool true)]),
(228,cd #[cK "_law_draw" 493,cK "_law_draw" 494,cK "/claim/cut.py" 495,.int 227 0,.int 2 0,.int 0 0,.int 0 0,.int 3 0,.ref 223,.bool true,.int 181 0,.ref 224,.none,.ref 225,.ref 226,.ref 227,.int 499 0,.int 227 0,cK "/claim/cut.py" 500]),
(229,fo (uH 10) "_law_draw" [] (cK "law_nz0391_02" 491) 228 .none 0),
(233,cd #[cK "_law_clause" 502,cK "_law_clause" 503,cK "/claim/cut.py" 504,.int 231 0,.int 2 0,.int 0 0,.int 0 0,.int 3 0,.ref 230,.bool true,.int 181 0,.ref 231,.none,.none,.none,.ref 232,.int 505 0,.int 231 0,cK "/claim/cut.py" 506]),
(234,fo (uH 11) "_law_clause" [] (cK "law_nz0391_02" 491) 233 .none 0),
(238,cd #[cK "_law_keeps" 508,cK "_law_keeps" 509,cK "/claim/cut.py" 510,.int 238 0,.int 2 0,.int 0 0,.int 0 0,.int 3 0,.ref 235,.bool true,.int 181 0,.ref 236,.none,.none,.none,.ref 237,.int 511 0,.int 238 0,cK "/claim/cut.py" 512]),
(239,fo (uH 12) "_law_keeps" [] (cK "law_nz0391_02" 491) 238 .none 0),
(243,cd #[cK "_law_able" 514,cK "_law_able" 515,cK "/claim/cut.py" 516,.int 240 0,.int 2 0,.int 0 0,.int 0 0,.int 3 0,.ref 240,.bool true,.int 181 0,.ref 241,.none,.none,.none,.ref 242,.int 517 0,.int 240 0,cK "/claim/cut.py" 518]),
(244,fo (uH 13) "_law_able" [] (cK "law_nz0391_02" 491) 243 .none 0),
(248,cd #[cK "_law_left" 520,cK "_law_left" 521,cK "/claim/cut.py" 522,.int 245 0,.int 2 0,.int 0 0,.int 0 0,.int 3 0,.ref 245,.bool true,.int 181 0,.ref 246,.none,.none,.none,.ref 247,.int 523 0,.int 245 0,cK "/claim/cut.py" 524]),
(249,fo (uH 14) "_law_left" [] (cK "law_nz0391_02" 491) 248 .none 0),
(253,cd #[cK "_law_clashes" 526,cK "_law_clashes" 527,cK "/claim/cut.py" 528,.int 249 0,.int 2 0,.int 0 0,.int 0 0,.int 3 0,.ref 250,.bool true,.int 181 0,.ref 251,.none,.none,.none,.ref 252,.int 529 0,.int 249 0,cK "/claim/cut.py" 530]),
(254,fo (uH 15) "_law_clashes" [] (cK "law_nz0391_02" 491) 253 .none 0),
(258,cd #[cK "_law_log_right" 532,cK "_law_log_right" 533,cK "/claim/cut.py" 534,.int 261 0,.int 4 0,.int 0 0,.int 0 0,.int 3 0,.ref 255,.bool true,.int 181 0,.ref 256,.none,.none,.none,.ref 257,.int 535 0,.int 261 0,cK "/claim/cut.py" 536]),
(259,fo (uH 16) "_law_log_right" [] (cK "law_nz0391_02" 491) 258 .none 0),
(265,cd #[cK "_law_asked" 538,cK "_law_asked" 539,cK "/claim/cut.py" 540,.int 270 0,.int 3 0,.int 0 0,.int 0 0,.int 3 0,.ref 260,.bool true,.int 181 0,.ref 261,.none,.ref 262,.ref 263,.ref 264,.int 545 0,.int 270 0,cK "/claim/cut.py" 546]),
(266,fo (uH 17) "_law_asked" [] (cK "law_nz0391_02" 491) 265 .none 0),
(270,cd #[cK "_law_answer_right" 548,cK "_law_answer_right" 549,cK "/claim/cut.py" 550,.int 277 0,.int 5 0,.int 0 0,.int 0 0,.int 3 0,.ref 267,.bool true,.int 181 0,.ref 268,.none,.none,.none,.ref 269,.int 551 0,.int 277 0,cK "/claim/cut.py" 552]),
(271,fo (uH 18) "_law_answer_right" [] (cK "law_nz0391_02" 491) 270 .none 0),
(275,cd #[cK "law" 554,cK "law" 555,cK "/claim/cut.py" 556,.int 287 0,.int 1 0,.int 0 0,.int 0 0,.int 3 0,.ref 272,.bool true,.int 181 0,.ref 273,.none,.none,.none,.ref 274,.int 557 0,.int 287 0,cK "/claim/cut.py" 558]),
(276,fo (uH 19) "law" [] (cK "law_nz0391_02" 491) 275 .none 0)]
noncomputable def bd:List Stmt->List Stmt
 | _::a::b::_::c::d::e::f::g::_::r=>a::b::c::d::e::f::g::r
 | l=>l
noncomputable def vw:Program:={PySem.Challenge.pw_nz0391_02 with main:={(PySem.Challenge.pw_nz0391_02).main with body:=bd (PySem.Challenge.pw_nz0391_02).main.body}}
noncomputable def Jj:Hook:=kHook KH [2,3,18,23,29,30,39,40,41,52,53,61,62,75,76,82,83,89,90,96,97,99,100,101,102,105,108,113,117,118,122,123,129,130,136,137,143,144,150,151,155,156,162,163,169,170,176,177,181,182,188,189,195,196,202,203,209,210,216,217,219,220,228,229,233,234,238,239,243,244,248,249,253,254,258,259,265,266,270,271,275,276] (λ V=>by kernel_rfl)
theorem hl:LeftO PySem.Challenge.pw_nz0391_02 vw [] (λ s=>xlAt vw [] s&&recOk (JT PySem.Challenge.rw_nz0391_02.row.toRowW) s) (Pq Jj) (Pp Jj) 3872:=by
 intro w
 kernel_rfl
end
section
noncomputable abbrev KK(p:fB):Frag:=Mine.KH p
structure Sx where
 prog:Program
 w:nD
 p:Program
 loose:List Str
 mean:ExcName->Option Value
 mg:Str->Option Value
 mb:Str->Option Value
 os:rS
 drawn:GL
noncomputable abbrev CX(X:Sx):Cx:=⟨X.prog,X.w,KK X.w.params,X.p,X.loose,X.mean,X.mg,X.mb,X.os,X.drawn⟩
structure SS where
 known:List (Int×Bool)
 heights:List (Int×Nat)
 causes:List (Int×Option Nat)
 row:List Int
 begins:List Nat
 seen:Nat
 liked:List (Int×Bool)
 rows:List (List Int)
 watch:List (Int×List Nat)
 heats:List (Int×Int)
 gain:Int
 log:List (List Int)
 refuted:Bool
 blamed:List Int
 clashes:Nat
 limit:Int
 lock:Option Obj
@[reducible] noncomputable def SS.uKnown(S:SS)(x:List (Int×Bool)):SS:={S with known:=x}
@[reducible] noncomputable def SS.uHeights(S:SS)(x:List (Int×Nat)):SS:={S with heights:=x}
@[reducible] noncomputable def SS.uCauses(S:SS)(x:List (Int×Option Nat)):SS:={S with causes:=x}
@[reducible] noncomputable def SS.uRow(S:SS)(x:List Int):SS:={S with row:=x}
@[reducible] noncomputable def SS.uBegins(S:SS)(x:List Nat):SS:={S with begins:=x}
@[reducible] noncomputable def SS.uSeen(S:SS)(x:Nat):SS:={S with seen:=x}
@[reducible] noncomputable def SS.uLiked(S:SS)(x:List (Int×Bool)):SS:={S with liked:=x}
@[reducible] noncomputable def SS.uRows(S:SS)(x:List (List Int)):SS:={S with rows:=x}
@[reducible] noncomputable def SS.uWatch(S:SS)(x:List (Int×List Nat)):SS:={S with watch:=x}
@[reducible] noncomputable def SS.uHeats(S:SS)(x:List (Int×Int)):SS:={S with heats:=x}
@[reducible] noncomputable def SS.uGain(S:SS)(x:Int):SS:={S with gain:=x}
@[reducible] noncomputable def SS.uLog(S:SS)(x:List (List Int)):SS:={S with log:=x}
@[reducible] noncomputable def SS.uRefuted(S:SS)(x:Bool):SS:={S with refuted:=x}
@[reducible] noncomputable def SS.uBlamed(S:SS)(x:List Int):SS:={S with blamed:=x}
@[reducible] noncomputable def SS.uClashes(S:SS)(x:Nat):SS:={S with clashes:=x}
inductive rG where
 | self | ns | known | heights | causes | row | begins | liked | rows | watching | heats | log | blamed
 | rowL (i:Nat) | wl (l:Int) | logT (i:Nat)
noncomputable abbrev Ad:=rG->Addr
noncomputable def uB(A:Ad)(a:Addr):Ad
 | .begins=>a
 | u=>A u
noncomputable def xZ(A:Ad)(a:Addr):Ad
 | .heats=>a
 | u=>A u
noncomputable def uA(A:Ad)(a:Addr):Ad
 | .blamed=>a
 | u=>A u
noncomputable def wo(A:Ad)(n:Nat)(a:Addr):Ad
 | .rowL i=>if i=n then a else A (.rowL i)
 | u=>A u
noncomputable def sP(A:Ad)(l:Int)(a:Addr):Ad
 | .wl k=>if k=l then a else A (.wl k)
 | u=>A u
noncomputable def wq(A:Ad)(n:Nat)(a:Addr):Ad
 | .logT i=>if i=n then a else A (.logT i)
 | u=>A u
noncomputable abbrev vn(n:Nat):Value:=vi (n:Int)
noncomputable def vb(b:Bool):Value:=.bool b
noncomputable def vo:Option Nat->Value
 | none=> .none
 | some k=>vn k
noncomputable def lk{α:Type}:List (Int×α)->Int->Option α
 | [],_=>none
 | (k,v)::r,l=>if k=l then some v else lk r l
noncomputable def ins{α:Type}:List (Int×α)->Int->α->List (Int×α)
 | [],l,v=>[(l,v)]
 | (k,w)::r,l,v=>if k=l then (k,v)::r else (k,w)::ins r l v
noncomputable def del{α:Type}(r:List (Int×α))(l:Int):List (Int×α):=r.filter λ p=>decide (p.1≠l)
theorem ti{α:Type}(k:Int)(v:α)(r:List (Int×α))(l:Int):lk ((k,v)::r) l=if k=l then some v else lk r l:=rfl
theorem G4{α:Type}(k:Int)(w:α)(r:List (Int×α))(l:Int)(v:α):ins ((k,w)::r) l v=if k=l then (k,v)::r else (k,w)::ins r l v:=rfl
noncomputable def lr{α:Type}(f:α->Value)(r:List (Int×α)):List (Int×Value):=r.map λ p=>(p.1,f p.2)
noncomputable def jE{α:Type}(r:List (Int×α)):Prop:=(r.map (·.1)).Nodup
noncomputable def fields(A:Ad)(S:SS):List (Str×Value):=
 [("known",.ref (A .known)),("heights",.ref (A .heights)),("causes",.ref (A .causes)),("row",.ref (A .row)),("begins",.ref (A .begins)),("seen",vn S.seen),("liked",.ref (A .liked)),
  ("rows",.ref (A .rows)),("watching",.ref (A .watching)),("heats",.ref (A .heats)),("gain",vi S.gain),("log",.ref (A .log)),("is_refuted",.bool S.refuted),("blamed",.ref (A .blamed)),("clashes",vn S.clashes),("conflict_limit",vi S.limit)]
noncomputable def refsOf(f:Nat->Addr)(n:Nat):List Value:=(cV n).map λ i=> .ref (f i)
noncomputable def kM(l:Option Obj)(x:aT):aT:=match l with
 | none=>x
 | some o=> .ro o x
noncomputable def gB(A:Ad)(S:SS):rG->Option aT
 | .self=>some (.inst 220 (A .ns))
 | .ns=>some (.ns (fields A S))
 | .known=>some (.dict (lr vb S.known))
 | .heights=>some (.dict (lr vn S.heights))
 | .causes=>some (.dict (lr vo S.causes))
 | .row=>some (.list (S.row.map vi))
 | .begins=>some (.list (S.begins.map vn))
 | .liked=>some (.dict (lr vb S.liked))
 | .rows=>some (.list (refsOf (λ i=>A (.rowL i)) S.rows.length))
 | .watching=>some (.dict (S.watch.map λ p=>(p.1,.ref (A (.wl p.1)))))
 | .heats=>some (kM S.lock (.dict (lr vi S.heats)))
 | .log=>some (.list (refsOf (λ i=>A (.logT i)) S.log.length))
 | .blamed=>some (.tup (S.blamed.map vi))
 | .rowL i=>S.rows[i]?.map λ r=> .list (r.map vi)
 | .wl l=>(lk S.watch l).map λ r=> .list (r.map vn)
 | .logT i=>S.log[i]?.map λ r=> .tup (r.map vi)
noncomputable def live(S:SS):rG->Prop
 | .rowL i=>i<S.rows.length
 | .wl l=>(lk S.watch l).isSome
 | .logT i=>i<S.log.length
 | _=>True
theorem d9:live S t↔∃o,gB A S t=some o:=by
 cases t with
 | rowL i=>refine (?_:i<S.rows.length↔∃o,(S.rows[i]?.map λ r=>aT.list (r.map vi))=some o);simp only [aQ];exact ⟨λ h=>⟨_,_,aA h,rfl⟩,λ QI=>by refine ck QI λ V V h V=>?_;clear QI;exact (ag.mp h).1⟩
 | logT i=>refine (?_:i<S.log.length↔∃o,(S.log[i]?.map λ r=>aT.tup (r.map vi))=some o);simp only [aQ];exact ⟨λ h=>⟨_,_,aA h,rfl⟩,λ QL=>by refine ck QL λ V V h V=>?_;clear QL;exact (ag.mp h).1⟩
 | wl l=>refine (?_:(lk S.watch l).isSome↔∃o,((lk S.watch l).map λ r=>aT.list (r.map vn))=some o);simp only [aQ,bW];exact ⟨λ QT=>by refine aS QT λ x h=>?_;clear QT;exact iI _ x h rfl,λ QW=>by refine ck QW λ V x h V=>?_;clear QW;exact ⟨x,h⟩⟩
 | _=>exact ⟨λ V=>⟨_,rfl⟩,λ V=>trivial⟩
theorem fX{α:Type}(f:α->Value):∀(r:List (Int×α)) (l:Int),ig (lr f r) l=(lk r l).map f
 | [],l=>rfl
 | (k,v)::r,l=>by
  have ih:=fX f r l
  unfold ig dn at ih⊢
  unfold lr at ih⊢
  simp only [bc,ma,ti]
  by_cases h:k=l
  ·simp [h]
  ·simp only [h,decide_false,if_false];exact ih
theorem uG{α:Type}(k:Int)(v:Value)(r:List (Int×Value))(l:Int)(x:Value)(hn:((k,v)::r).map (·.1) |>.Nodup):cW ((k,v)::r) l x=if k=l then (k,x)::r else (k,v)::cW r l x:=by
 simp only [bc,bp] at hn
 unfold cW
 simp only [uu,bc]
 by_cases h:k=l
 ·subst h
  simp only [decide_true,Bool.true_or,if_true]
  congr 1
  conv=>rhs;rw [<-m6 r]
  refine dF λ p hp=>?_
  have:p.1≠k:=λ e=>hn.1 (e▸bf hp)
  simp [this]
 ·simp only [h,decide_false,Bool.false_or,if_false]
  split at⊢<;>simp
theorem vc{α:Type}(f:α->Value)(r:List (Int×α)):(lr f r).map (·.1)=r.map (·.1):=by
 unfold lr;exact af bC rfl
theorem kH{α:Type}(f:α->Value):∀(r:List (Int×α)) (l:Int) (v:α),jE r->cW (lr f r) l (f v)=lr f (ins r l v)
 | [],l,v,_=>rfl
 | (k,w)::r,l,v,hn=>by
  have hn' :jE r:=(bp.mp hn).2
  have ih:=kH f r l v hn'
  refine ((ah (uG (α:=α) _ _ _ _ _ (((ah (vc ..) hn):(k::(lr f r).map (·.1)).Nodup))) (ah ih ?_)):cW ((k,f w)::lr f r) l (f v)=_)
  refine (?_:_=lr f (if k=l then (k,v)::r else (k,w)::ins r l v))
  split at⊢<;>rfl
theorem uy{α:Type}(f:α->Value)(r:List (Int×α))(l:Int):jA (lr f r) l=lr f (del r l):=by
 unfold jA del lr
 exact af i9 rfl
theorem eB{α:Type}:∀(r:List (Int×α)) (l:Int) (v:α) (j:Int),lk (ins r l v) j=if j=l then some v else lk r j
 | [],l,v,j=>by
  refine (?_:(if l=j then some v else none)=if j=l then some v else none)
  by_cases h:l=j
  ·simp [h]
  ·simp [h,gk h]
 | (k,w)::r,l,v,j=>by
  have ih:=eB r l v j
  refine ah (G4 ..) ?_
  by_cases h:k=l
  ·(try clear ih);subst h
   simp only [if_true]
   refine af (ti ..) (ah (ti ..) ?_)
   by_cases h' :k=j
   ·simp [h']
   ·simp [h',gk h']
  ·simp only [h,if_false]
   refine af (ti ..) (ah (ti ..) ?_)
   by_cases h' :k=j
   ·(try clear ih);subst h';simp [h]
   ·simp only [h',if_false];exact ih
theorem nc{α:Type}:∀(r:List (Int×α)) (l j:Int),lk (del r l) j=if j=l then none else lk r j
 | [],l,j=>(ite_self _).symm
 | (k,w)::r,l,j=>by
  have ih:=nc r l j
  unfold del at ih⊢
  refine ah bG ?_
  by_cases h:k=l
  ·subst h
   simp only [ne_eq,not_true_eq_false,decide_false,bX,if_false]
   refine af ih ?_
   by_cases h' :j=k
   ·simp [h']
   ·have:¬k=j:=λ e=>h' e.symm
    simp [h',ti,this]
  ·simp only [ne_eq,h,not_false_eq_true,decide_true,if_true]
   refine af (ti ..) (ah (ti ..) ?_)
   by_cases h' :k=j
   ·(try clear ih);subst h';simp [h]
   ·simp only [h',if_false];exact ih
theorem h_{α:Type}:∀(r:List (Int×α)) (l:Int) (v:α),jE r->jE (ins r l v)/\∀j,j∈(ins r l v).map (·.1)↔j=l\/j∈r.map (·.1)
 | [],l,v,_=>⟨lm _ _,λ j=>by refine (?_:j∈[l]↔j=l\/j∈[]);simp⟩
 | (k,w)::r,l,v,hn=>by
  refine aU (bp.mp hn) λ h1 h2=>(aU (h_ r l v h2) λ i1 i2=>(ah (G4 ..) ?_))
  by_cases h:k=l
  ·clear i1 i2;subst h
   simp only [if_true]
   exact ⟨hn,λ j=>by simp⟩
  ·simp only [h,if_false]
   refine ⟨bp.mpr ⟨λ q=>?_,i1⟩,λ j=>?_⟩
   ·rcases (i2 k).mp q with e | e
    ·exact h e
    ·exact h1 e
   ·refine ah bc (io aL (io (i2 j) (ah bc (io aL ?_))))
    constructor
    ·rintro (h | h | h)<;>simp [h]
    ·rintro (h | h | h)<;>simp [h]
theorem u3{α:Type}(r:List (Int×α))(l:Int)(h:jE r):jE (del r l):=by
 unfold jE del at*
 exact h.sublist (uw _ nH)
theorem gF{α:Type}:∀(r:List (Int×α)) (l:Int),lk r l=none↔l∉r.map (·.1)
 | [],l=>⟨λ V h=>(nomatch h),λ V=>rfl⟩
 | (k,w)::r,l=>by
  have ih:=gF r l
  refine ah (ti ..) ?_
  by_cases h:k=l
  ·(try clear ih);subst h;simp
  ·have:¬l=k:=λ e=>h e.symm
   simp only [h,if_false,bc,aL,this,false_or];exact ih
theorem gM:∀(n:Nat) (l:List Int),l.Nodup->(∀k∈l,0<=k/\k<(n:Int))->l.length<=n
 | 0,l,_,h=>by
  cases l with
  | nil=>exact az _
  | cons k r=>have:=h k (.head _);exact absurd (eV this.1 this.2) (by decide)
 | n+1,l,hn,h=>by
  have h1:=gM n (l.filter λ k=>decide (k≠(n:Int))) (hn.sublist nH) λ k hk=>by
   refine aU (bE.mp hk) λ a b=>?_
   have:=h k a
   have b' :=of_decide_eq_true b
   exact Kz this b'
  have h2:l.length<=(l.filter λ k=>decide (k≠(n:Int))).length+1:=by
   clear h1 h
   induction l with
   | nil=>simp
   | cons k r ih=>
    refine aU (bp.mp hn) λ a b=>(ah bG ?_)
    by_cases e:k=(n:Int)
    ·(try clear hn);subst e
     have:r.filter (λ k=>decide (k≠(n:Int)))=r:=gH.mpr λ x hx=>by
      simp only [ne_eq,decide_eq_true_eq];exact λ q=>a (q▸hx)
     have h3:decide ((n:Int)≠(n:Int))=false:=by simp
     exact ah h3 (ah (if_neg dK) (ah this (az _)))
    ·simp only [ne_eq,e,not_false_eq_true,decide_true,if_true,bF]
     have:=ih b
     simp only [ne_eq] at this
     exact b8 this _
  exact ac h2 (b8 h1 _)
noncomputable def Kv{α:Type}(r:List (Int×α)):Prop:=jE r/\∀k∈r.map (·.1),0<=k/\k<=1000
noncomputable def Kw{α:Type}(r:List (Int×α)):Prop:=jE r/\∀k∈r.map (·.1),-1000<=k/\k<=1000
theorem Kv.len{α:Type}{r:List (Int×α)}(h:Kv r):r.length<=100000:=by
 have:=gM 1001 _ h.1 λ k hk=>by have:=h.2 k hk;exact bk this.1 (eV this.2 (by decide))
 replace this:=(ae ..)▸this;exact ac this (aj _ _)
theorem Kw.len{α:Type}{r:List (Int×α)}(h:Kw r):r.length<=100000:=by
 have:=gM 2001 ((r.map (·.1)).map λ k=>k+1000) ?_ λ k hk=>by
  refine aM (aJ.mp hk) λ x hx QY=>?_;subst QY
  have:=h.2 x hx;exact Ky this
 ·replace this:=(ae ..)▸(ae ..)▸this;exact ac this (aj _ _)
 ·have hn:(r.map (·.1)).Nodup:=h.1
  unfold gX at hn⊢
  exact io cY (hn.imp λ h e=>h (Kx e))
theorem Kv.ins{α:Type}{r:List (Int×α)}(h:Kv r)(v:α)(h0:0<=l)(h1:l<=1000):Kv (ins r l v):=
 ⟨(h_ r l v h.1).1,λ k hk=>by
  rcases ((h_ r l v h.1).2 k).mp hk with e | e
  ·exact ah e ⟨h0,h1⟩
  ·exact h.2 k e⟩
theorem Kw.ins{α:Type}{r:List (Int×α)}(h:Kw r)(v:α)(h0:-1000<=l)(h1:l<=1000):Kw (ins r l v):=
 ⟨(h_ r l v h.1).1,λ k hk=>by
  rcases ((h_ r l v h.1).2 k).mp hk with e | e
  ·exact ah e ⟨h0,h1⟩
  ·exact h.2 k e⟩
theorem yo{α:Type}{r:List (Int×α)}(h:k∈(del r l).map (·.1)):k∈r.map (·.1):=by
 refine aM (aJ.mp h) λ p hp Rb=>?_;subst Rb
 exact bf (bE.mp hp).1
theorem Kv.del{α:Type}{r:List (Int×α)}(h:Kv r)(l:Int):Kv (del r l):=⟨u3 r l h.1,λ k hk=>h.2 k (yo hk)⟩
theorem Kw.del{α:Type}{r:List (Int×α)}(h:Kw r)(l:Int):Kw (del r l):=⟨u3 r l h.1,λ k hk=>h.2 k (yo hk)⟩
structure mM(S:SS):Prop where
 v1:Kv S.known
 v2:Kv S.heights
 v3:Kv S.causes
 v4:Kv S.liked
 v5:Kv S.heats
 v6:Kw S.watch
 z7:S.row.length<=100000
 z8:S.begins.length<=100000
 z9:S.rows.length<=100000
 z10:S.log.length<=100000
 lit:∀l∈S.row,-1000<=l/\l<=1000
section
variable{S:SS}(h:mM S)
include h
theorem mM.k1:jE S.known:=h.v1.1
theorem mM.k2:jE S.heights:=h.v2.1
theorem mM.k3:jE S.causes:=h.v3.1
theorem mM.k4:jE S.liked:=h.v4.1
theorem mM.k5:jE S.heats:=h.v5.1
theorem mM.k6:jE S.watch:=h.v6.1
theorem mM.z1:S.known.length<=100000:=h.v1.len
theorem mM.z2:S.heights.length<=100000:=h.v2.len
theorem mM.z3:S.causes.length<=100000:=h.v3.len
theorem mM.z4:S.liked.length<=100000:=h.v4.len
theorem mM.z5:S.heats.length<=100000:=h.v5.len
theorem mM.z6:S.watch.length<=100000:=h.v6.len
end
structure Inv(A:Ad)(S:SS)(U:AH):Prop where
 at_:∀t o,gB A S t=some o->U.get (A t)=some o
 inj:∀t u,live S t->live S u->A t=A u->t=u
noncomputable def Off(A:Ad)(S:SS)(a:Addr):Prop:=∀t,live S t->A t≠a
section
variable{A A' A'' :Ad}{S S' UK :SS}{U U' SZ U0:AH}{a b:Addr}{o o' :aT}{t u:rG}
theorem Inv.ne(I:Inv A S U)(h1:live S t)(h2:live S u)(h:t≠u):A t≠A u:=λ e=>h (I.inj t u h1 h2 e)
theorem Inv.has(I:Inv A S U)(h:live S t):∃o,U.get (A t)=some o:=aS ((d9 (A:=A)).mp h) λ o h=>⟨o,I.at_ t o h⟩
theorem Inv.off(I:Inv A S U)(h:U.get a=none):Off A S a:=λ t ht e=>by refine aS (I.has ht) λ o q=>?_;replace q:=h▸e▸q;exact (bw q).elim
theorem Inv.ext(I:Inv A S U)(h:∀t,live S t->U'.get (A t)=U.get (A t)):Inv A S U' :=
 ⟨λ t o e=>af (h t (d9.mpr ⟨o,e⟩)) (I.at_ t o e),I.inj⟩
theorem Inv.putx(I:Inv A S U)(h:Off A S a):Inv A S (U.put a o):=I.ext λ t ht=>AH.get_put_ne (h t ht)
theorem Inv.upd(I:Inv A S U)(t w:rG)(a:Addr)(e1:A' t=a)(e2:∀u,u≠t->A' u=A u)(RS:Off A S a\/(a=A t/\live S t))(Tv:t≠w)(hw:live S w)
  (h1:∀o,gB A' S' t=some o->U'.get a=some o) (h2:∀o,gB A' S' w=some o->U'.get (A w)=some o) (h3:∀b,b≠a->b≠A w->U'.get b=U.get b)
  (h4:∀u,u≠t->u≠w->(gB A' S' u=none\/gB A' S' u=gB A S u)):Inv A' S' U' :=by
 have lv:∀u,u≠t->live S' u->live S u:=λ u hu hl=>by
  by_cases e:u=w
  ·exact ah e hw
  ·refine aS ((d9 (A:=A')).mp hl) λ o q=>?_
   rcases h4 u hu e with h | h
   ·replace q:=h▸q;exact (bw q).elim
   ·exact (d9 (A:=A)).mpr ⟨o,h▸q⟩
 have ne:∀u,u≠t->live S u->A u≠a:=λ u hu hl=>by
  rcases RS with h | ⟨h,h'⟩
  ·exact h u hl
  ·exact ah h (I.ne hl h' hu)
 refine ⟨λ u o q=>?_,λ u v hu hv e=>?_⟩
 ·by_cases hu:u=t
  ·clear e2 h4 RS Tv lv ne;subst hu;exact ah e1 (h1 o q)
  ·refine ah (e2 u hu) ?_
   by_cases hw' :u=w
   ·clear h3 h4 Tv hw;subst hw';exact h2 o q
   ·have hl:=lv u hu (d9.mpr ⟨o,q⟩)
    refine af (h3 _ (ne u hu hl) (I.ne hl hw hw')) ?_
    rcases h4 u hu hw' with h | h
    ·replace q:=h▸q;exact (bw q).elim
    ·exact I.at_ u o (h▸q)
 ·by_cases h1:u=t<;>by_cases h2:v=t
  ·exact af h1 (ah h2 rfl)
  ·clear h4 RS Tv;subst h1;replace e:=e2 v h2▸e1▸e;exact absurd e.symm (ne v h2 (lv v h2 hv))
  ·clear h4 RS Tv;subst h2;replace e:=e2 u h1▸e1▸e;exact absurd e (ne u h1 (lv u h1 hu))
  ·replace e:=e2 v h2▸e2 u h1▸e;exact I.inj u v (lv u h1 hu) (lv v h2 hv) e
theorem Inv.put(I:Inv A S U)(w:rG)(hw:live S w)(h2:gB A S' w=some o)(h4:∀u,u≠w->(gB A S' u=none\/gB A S' u=gB A S u)):Inv A S' (U.put (A w) o):=by
 have lv:∀u,live S' u->live S u:=λ u hl=>by
  by_cases e:u=w
  ·exact ah e hw
  ·refine aS ((d9 (A:=A)).mp hl) λ o q=>?_
   rcases h4 u e with h | h
   ·replace q:=h▸q;exact (bw q).elim
   ·exact (d9 (A:=A)).mpr ⟨o,h▸q⟩
 refine ⟨λ u o' q=>?_,λ u v hu hv e=>I.inj u v (lv u hu) (lv v hv) e⟩
 by_cases e:u=w
 ·clear h4 hw;subst e;replace q:=h2▸q;(try clear h2);have Q8:=sI q;clear q;subst Q8;exact AH.get_put_self _ _ _
 ·have hl:=lv u (d9.mpr ⟨o',q⟩)
  refine af (AH.get_put_ne (I.ne hl hw e)) ?_
  rcases h4 u e with h | h
  ·replace q:=h▸q;exact (bw q).elim
  ·exact I.at_ u o' (h▸q)
structure St(me:Addr)(A:Ad)(S:SS)(U:AH)(E:List (Addr×aT)):Prop where
 self:A .self=me
 inv:Inv A S U
 fit:mM S
 xt:∀p∈E,Off A S p.1/\U.get p.1=some p.2
 nd:(E.map (·.1)).Nodup
variable{me:Addr}{E:List (Addr×aT)}{p p0 p1 p2 p3 p4:Addr×aT}
theorem St.lv(T:St me A S U E)(h4:∀u,u≠t->(gB A S' u=none\/gB A S' u=gB A S u))(hw:live S t):∀u,live S' u->live S u:=λ u hl=>by
 by_cases e:u=t
 ·exact ah e hw
 ·refine aS ((d9 (A:=A)).mp hl) λ o q=>?_
  rcases h4 u e with h | h
  ·replace q:=h▸q;exact (bw q).elim
  ·exact (d9 (A:=A)).mpr ⟨o,h▸q⟩
theorem St.at_(T:St me A S U E)(h:(a,o)∈E):U.get a=some o:=(T.xt _ h).2
theorem St.has(T:St me A S U E)(t:rG)(h:gB A S t=some o):U.get (A t)=some o:=T.inv.at_ t o h
theorem St.put(T:St me A S U E)(w:rG)(hw:live S w)(h2:gB A S' w=some o)(h4:∀u,u≠w->(gB A S' u=none\/gB A S' u=gB A S u))(Z:mM S'):St me A S' (U.put (A w) o) E:=
 ⟨T.self,T.inv.put w hw h2 h4,Z,λ p hp=>aU (T.xt p hp) λ h1 h3=>⟨λ u hu=>h1 u (T.lv h4 hw u hu),ah (AH.get_put_ne (gk (h1 w hw))) h3⟩,T.nd⟩
theorem St.upd(T:St me A S U ((a,o)::E))(t w:rG)(e1:A' t=a)(e2:∀u,u≠t->A' u=A u)(ht:∀q,gB A' S' t=some q->q=o)(Tv:t≠w)(hts:rG.self≠t)(hw:live S w)
  (h2:gB A' S' w=some o') (h4:∀u,u≠t->u≠w->(gB A' S' u=none\/gB A' S' u=gB A S u)) (Z:mM S'):St me A' S' (U.put (A w) o') E:=by
 refine aU (T.xt _ (.head _)) λ RS ha=>?_
 have haw:a≠A w:=λ e=>RS w hw e.symm
 refine ⟨(e2 .self hts).symm▸T.self,T.inv.upd t w a e1 e2 (.inl RS) Tv hw (λ q hq=>?_) (λ q hq=>?_) (λ b h1 h2=>AH.get_put_ne h2) h4,Z,λ p hp=>?_,(bp.mp T.nd).2⟩
 ·exact af (AH.get_put_ne haw) (ah (ht q hq) ha)
 ·replace hq:=h2▸hq;(try clear h2);have Rc:=sI hq;clear hq;subst Rc;exact AH.get_put_self _ _ _
 ·clear ht hts Tv;refine aU (T.xt p (.tail _ hp)) λ h1 h3=>⟨λ u hu=>?_,ah (AH.get_put_ne (gk (h1 w hw))) h3⟩
  by_cases e:u=t
  ·clear e2 h4;subst e;exact ah e1 (λ e=>(bp.mp T.nd).1 (aJ.mpr ⟨p,hp,e.symm⟩))
  ·refine ah (e2 u e) (h1 u ?_)
   by_cases e' :u=w
   ·exact ah e' hw
   ·refine aS ((d9 (A:=A')).mp hu) λ q hq=>?_
    rcases h4 u e e' with h | h
    ·replace hq:=h▸hq;exact (bw hq).elim
    ·exact (d9 (A:=A)).mpr ⟨q,h▸hq⟩
theorem St.fresh(T:St me A S U E)(h:U.get a=none):St me A S (U.put a o) ((a,o)::E):=by
 have hne:∀p∈E,p.1≠a:=λ p hp e=>by have:=(T.xt p hp).2;replace this:=h▸e▸this;exact (bw this).elim
 refine ⟨T.self,T.inv.putx (T.inv.off h),T.fit,λ p hp=>?_,bp.mpr ⟨λ q=>?_,T.nd⟩⟩
 ·rcases aL.mp hp with rfl | hp
  ·exact ⟨T.inv.off h,AH.get_put_self _ _ _⟩
  ·exact ⟨(T.xt p hp).1,af (AH.get_put_ne (hne p hp)) ((T.xt p hp).2)⟩
 ·exact aM (aJ.mp q) λ p hp e=>(hne p hp e)
theorem St.drop(T:St me A S U (p::E)):St me A S U E:=⟨T.self,T.inv,T.fit,λ q hq=>T.xt q (.tail _ hq),(bp.mp T.nd).2⟩
inductive gt(a:Addr)(o o' :aT):List (Addr×aT)->List (Addr×aT)->Prop
 | here {E:List (Addr×aT)}:gt a o o' ((a,o)::E) ((a,o')::E)
 | there {p:Addr×aT} {E E' :List (Addr×aT)}:gt a o o' E E' ->gt a o o' (p::E) (p::E')
theorem gt.mem(h:gt a o o' E E'):(a,o)∈E:=by
 induction h with
 | here=>exact .head _
 | there _ ih=>exact .tail _ ih
theorem gt.keys(h:gt a o o' E E'):E'.map (·.1)=E.map (·.1):=by
 induction h with
 | here=>rfl
 | there _ ih=>simp [ih]
theorem gt.of(h:gt a o o' E E')(hn:(E.map (·.1)).Nodup):∀p∈E',p=(a,o')\/(p∈E/\p.1≠a):=by
 induction h with
 | here=>
  intro p hp
  rcases aL.mp hp with rfl | hp
  ·exact .inl rfl
  ·exact .inr ⟨.tail _ hp,λ e=>(bp.mp hn).1 (aJ.mpr ⟨p,hp,e⟩)⟩
 | @there p0 E E' ht ih=>
  intro p hp
  rcases aL.mp hp with rfl | hp
  ·exact .inr ⟨.head _,λ e=>(bp.mp hn).1 (aJ.mpr ⟨_,ht.mem,e.symm⟩)⟩
  ·rcases ih (bp.mp hn).2 p hp with h | ⟨h,h'⟩
   ·exact .inl h
   ·exact .inr ⟨.tail _ h,h'⟩
theorem St.turn(T:St me A S U E)(h:gt a o o' E E'):St me A S (U.put a o') E' :=by
 have RS:=(T.xt _ h.mem).1
 refine ⟨T.self,T.inv.putx RS,T.fit,λ p hp=>?_,h.keys▸T.nd⟩
 rcases h.of T.nd p hp with rfl | ⟨h1,h2⟩
 ·exact ⟨RS,AH.get_put_self _ _ _⟩
 ·exact ⟨(T.xt p h1).1,af (AH.get_put_ne h2) ((T.xt p h1).2)⟩
theorem St.subl(T:St me A S U E)(h:E'.Sublist E):St me A S U E' :=⟨T.self,T.inv,T.fit,λ p hp=>T.xt p (h.subset hp),T.nd.sublist (h.map _)⟩
theorem St.perm(T:St me A S U E)(h:E.Perm E'):St me A S U E' :=⟨T.self,T.inv,T.fit,λ p hp=>T.xt p (h.mem_iff.mpr hp),(h.map _).nodup_iff.mp T.nd⟩
end
end
section
section
variable{C:Cx}{F:c_}{n:Nat}{m:Str->Option Value}{U U' :AH}{Z:List (Addr×Obj)}{s s' :aE}
theorem Ic{Q:Value->AH->Prop}(hi:i.natAbs<2^64)(h:Q (vi (i*j)) U):iK C F n (eM .Mult) (vi i) (vi j) m U (qe Q):=λ a b ha hb O Z s W R K=>iU ha λ t=>iU hb λ u=>(PySem.P.mul_int (K _ _ _ (R.toks O) h) (Qw (intBits_le hi)))
theorem Ie{Q:Value->AH->Prop}(hj:j≠0)(h:Q (vi (i.fmod j)) U):iK C F n (eM .Mod) (vi i) (vi j) m U (qe Q):=λ a b ha hb O Z s W R K=>iU ha λ t=>iU hb λ u=>(mod_int' hj (K _ _ _ (R.toks O) h))
theorem EK{Q:Value->AH->Prop}(hj:j≠0)(hz:j.natAbs<1073741824)(h:Q (vi (i.fdiv j)) U):iK C F n (eM .FloorDiv) (vi i) (vi j) m U (qe Q):=λ a b ha hb O Z s W R K=>iU ha λ t=>iU hb λ u=>(floordiv_int hj (K _ _ _ (R.toks O) h) (.inl (PyProof.noPylong_small hz)))
noncomputable def WP(C:Cx)(F:c_)(n:Nat)(x:Option Expr)(m:Str->Option Value)(U:AH)(Q:Option Int->AH->Prop):Prop:=match x with
 | none=>Q none U
 | some e=>WE C F n e m U λ v U' =>∃i,v=vi i/\Q (some i) U'
theorem WP.run{Q:Option Int->AH->Prop}(h:WP C F n x m U Q)(O:F.Ok C n)(R:cj C F Z s m U):
  br (bL C.prog C.w) F.A (evalPart x F.env) (λ v s' =>∃U' i,cj C F Z s' m U' /\IsPart v i/\Q i U') (λ V V=>False) s:=by
 cases x with
 | none=>exact aZ ⟨U,none,R,.none,h⟩
 | some e=>exact h O Z s _ R λ v s₁ U1 R₁ ⟨i,e,q⟩=>iU e λ t=>(lc U1 (some i) R₁ (.int i t) q)
noncomputable def jS(xs:List Value)(lo hi st:Option Int):List Value:=(mU xs.toArray lo hi st).toList
theorem yh(vs:List Value)(lo hi st:Option Int):(mU vs.toArray lo hi st).toList.map er=jS (vs.map er) lo hi st:=by
 unfold jS mU
 simp only [bo,ae,List.map_filterMap]
 refine congrFun (congrArg List.filterMap (funext λ i=>?_)) _
 simp
theorem pick_from(xs:List Value)(a:Nat):jS xs (some a) none none=xs.drop a:=by
 unfold jS;exact ah (slicePick_from' ..) rfl
theorem iZ(xs:List Value)(b:Nat):jS xs none (some b) none=xs.take b:=by
 unfold jS;exact ah (slicePick_upto' ..) rfl
theorem BN(xs:List Value):jS xs none none (some (-1))=xs.reverse:=by
 unfold jS;exact ah (krv_pick ..) rfl
theorem L_{lo hi st:Option Expr}{Q:Value->AH->Prop}(hs:yX (.Slice lo hi st p))
  (h:WE C F n value m U λ o U1=>∃a,o=.ref a/\WP C F n lo m U1 λ l QB=>WP C F n hi m QB λ u QG=>WP C F n st m QG λ c U4=>c≠some 0/\∃xs,U4.rd a=some (.list xs)/\xs.length<=10000000/\
   ∀D,U4.get D=none->Q (.ref D) (U4.put D (.list (jS xs l u c)))):WE C F n (.Subscript value (.Slice lo hi st p) pos) m U Q:=λ O Z s W R K=>
 JB (h O Z s _ R λ o s₁ U1 R₁ ⟨a,e,QC⟩=>by
  refine jz e (Qn (cz (QC.run O R₁) (λ l s₂ ⟨QB,li,R₂,pl,QP⟩=>cz (QP.run O R₂) (λ u s₃ ⟨QG,ui,R₃,pu,Q_⟩=>cz (Q_.run O R₃) (λ c s₄ Q4=>(jk Q4 λ U4 ci R4 pc h0 QI=>?_)) qz) qz) qz));clear Q4;refine c9 QI λ xs ha hz Rq=>?_;clear QI
  refine ck (R4.at ha) λ vs k hv hx=>?_
  have hlen:=dw hx
  have hl:s₄.heap.IsList a vs.toArray:=⟨_,hv,rfl,_,rfl⟩
  have R5:cj C F Z {s₄ with heap:=s₄.heap.push {cls:=.type "slice",data:=.fields #[l,u,c]}} m U4:=R4.grow O ⟨R4.core.gens,R4.core.os,R4.core.dr⟩ λ b o e=>aW _ e
  have hl' :(s₄.heap.push {cls:=.type "slice",data:=.fields #[l,u,c]}).IsList a vs.toArray:=⟨_,aW _ hv,rfl,_,rfl⟩
  refine aS (hs (.ref a) (.ref s₄.heap.objs.size)) λ RM e=>(OB (T:="list") (s:={s₄ with heap:=s₄.heap.push {cls:=.type "slice",data:=.fields #[l,u,c]}}) hl'.typeIs lB.lookup (AC hl' (rq _ _ _ _) pl pu pc h0 (K _ _ _ ((R5.push (tk:=s₄.toks) O (o:={cls:=.type "list",data:=.seq (mU vs.toArray li ui ci)}) (ao:=.list (jS xs li ui ci)) ?_).1) (Rq _ (R5.fresh R5.size_none))) (ah bo (ah cB (ac (aC hlen) (ac hz (aj _ _)))))) e)
  refine iI ((mU vs.toArray li ui ci).toList) 0 ?_ ?_
  ·exact ah iP (cf _ rfl)
  ·exact af (yh ..) (ah hx rfl))
theorem Di{h:fT}{vs:List Value}{c:Nat}(hv:h.get? a=some (listOf vs.toArray c))(f:Array Value->Array Value){ws xs:List Value}(e:f vs.toArray=ws.toArray)(ex:ws.map er=xs):At C (h.update a (OO f)) a (.list xs):=by
 have:=xR hv f
 replace this:=e▸this
 exact iI ws _ this ex
theorem FS{Q:Value->AH->Prop}(ha:U.get a=some (.list (xs++[v])))(hz:xs.length<=10000000)(h:Q v (U.put a (.list xs))):WB C F n (.builtin "list.pop") [.ref a] m U (qe Q):=λ QE e O Z s W R K=>by
 refine aR e (ck ((R.sg _ _ ha).2) λ vs k hv hx=>?_)
 have hlen:=dw hx
 obtain ⟨ws,y,rfl⟩:∃ws y,vs=ws++[y]:=⟨vs.dropLast,vs.getLast (by intro q;clear hv hx;subst q;simp at hlen),(rp _).symm⟩
 replace hx:=pG▸bc▸aD▸hx
 refine aU (List.append_inj' hx rfl) λ hx1 VE=>?_
 have hy:er y=v:=by simpa using VE
 refine Jz uq ⟨_,hv,rfl⟩ PySem.F.entry_list_pop (PySem.F.args_list_pop_1 _) (JV a _ k y ?_ ?_)
  ⟨hv,(K _ _ _ (R.set (s' :={s with heap:=s.heap.update a (OO λ xs=>xs.eraseIdxIfInBounds ((ws++[y]).toArray.size-1))}) O ⟨R.core.gens,R.core.os,R.core.dr⟩ ha (λ b o nb e=>(gI _ _ _ _ nb).trans e) (o:=.list xs) (Di hv _ (ws:=ws) ?_ hx1)) (((ah hy h):Q (er y) _)))⟩
 ·simp
 ·refine ah bo (ah cB ?_);simp at hlen⊢;exact ac (aC hlen) (ac hz (aj _ _))
 ·have hk:(ws++[y]).toArray.size-1=ws.length:=ah bo (ah av rfl)
  exact ((ah hk (af (kl_erase ..) (ah (dh ..) rfl))):(ws++[y]).toArray.eraseIdxIfInBounds ((ws++[y]).toArray.size-1)=ws.toArray)
theorem Aj{a b:Addr}{Q:Value->AH->Prop}(ha:U.get a=some (.list xs))(hb:U.rd b=some (.list ys))(hz:xs.length+ys.length<=10000000)(h:Q .none (U.put a (.list (xs++ys)))):WB C F n (.builtin "list.extend") [.ref a,.ref b] m U (qe Q):=λ QE e O Z s W R K=>by
 refine Pb e (ck ((R.sg _ _ ha).2) λ vs k hv hx=>(ck (R.at hb) λ ws k' hw hy=>?_))
 have hlen:=dw hx
 have hlen' :=dw hy
 refine Jz rQ ⟨_,hv,rfl⟩ PySem.F.entry_list_extend (PySem.F.args_list_extend_2 _ _) (JW a vs.toArray k b ws.toArray k' ?_ ?_ ?_)
  ⟨hv,hw,(K _ _ _ (R.set O R.core.upd ha (λ b o nb e=>(gI _ _ _ _ nb).trans e) (o:=.list (xs++ys)) (Di hv _ (ws:=vs++ws) ?_ (af aD (ah hx (ah hy rfl))))) h)⟩
 ·simp only [dk,not_and,Bool.not_eq_true]
  intro _
  simp only [bo]
  unfold Ng
  refine io decide_eq_false_iff_not (ah cB ?_)
  exact PK hz hlen hlen'
 ·exact ah bo (ah cB (ac (xa hlen (aB _ _)) (ac hz (aj _ _))))
 ·refine ah bo (ah bo (ah cB ?_));exact PJ hz hlen hlen'
 ·simp
theorem cj.viaNews(O:F.Ok C n)(R:cj C F Z s m U):∃mL,Fr F.h₀ F.L s.heap mL/\ot F.h₀ F.L s.heap (um F Z U s.heap)/\
  ∀s' D ob ao,l5 C s' ->Fr F.h₀ F.L s'.heap mL->ot F.h₀ F.L s'.heap ((D,ob)::um F Z U s.heap)->(∀p∈um F Z U s.heap,p.1<D)->3<D->At C s'.heap D ao->cj C F Z s' m (U.put D ao)/\U.get D=none:=by
 refine aS R.fr λ mL FR=>(fW mL FR R.news (λ s' D ob ao c' F' N' l1 h3 hA=>?_))
 have hn:U.get D=none:=by
  cases q:U.get D with
  | none=>rfl
  | some o=>
   refine aU (R.sg _ _ q) λ QL V=>(aU QL λ QW V=>?_);clear QL;obtain ⟨Q6,x⟩:=QW
   exact absurd (l1 (D,Q6) (ai _ (bH.mpr ⟨AH.dom' q,x⟩))) (bP _)
 refine ⟨R.back O FR c' F' (λ V=>False) (λ V h=>h.elim) (λ p hp V=>(N' p (.tail _ hp)).1) λ b o e=>?_,hn⟩
 replace e:=(AH.get_put ..)▸e
 split at e
 ·rename_i q;(try clear hn);subst q;have QT:=sI e;clear e;subst QT
  exact cu (N' (b,ob) (.head _)) λ x y z=>(.inr ⟨.inr ⟨λ p hp=>bu (l1 p hp),h3⟩,⟨⟨_,x⟩,y,z⟩,hA⟩)
 ·exact .inl ⟨e,id⟩
theorem cj.ledLt(R:cj C F Z s m U):∀p∈um F Z U s.heap,p.1<s.heap.objs.size:=λ p hp=>bz (R.news p hp).1
theorem EO{Q:Value->AH->Prop}(ha:U.rd a=some (.list xs))(hb:U.rd b=some (.list ys))(hz:xs.length+ys.length<=10000000)(h:∀D,U.get D=none->Q (.ref D) (U.put D (.list (xs++ys)))):
  iK C F n (eM .Add) (.ref a) (.ref b) m U (qe Q):=λ a' b' e1 e2 O Z s W R K=>by
 refine jz e1 (jz e2 (ck (R.at ha) λ vs k hv hx=>(ck (R.at hb) λ ws k' hw hy=>?_)))
 have hlen:=dw hx
 have hlen' :=dw hy
 refine c9 (R.viaNews O) λ mL FR N back=>(add_arrays (its:=vs.toArray) (its2:=ws.toArray) FR N ⟨_,hv,rfl,_,rfl⟩ ⟨_,hw,rfl,_,rfl⟩ (λ h' F' N' =>?_) (by refine ah bo (ah bo (ah cB ?_));exact O8 hz hlen hlen'))
 exact aU (back {s with heap:=h' } _ _ (.list (xs++ys)) ⟨R.core.gens,R.core.os,R.core.dr⟩ F' N' R.ledLt (R.top O) ⟨vs++ws,0,(N' _ (.head _)).1,af aD (ah hx (ah hy rfl))⟩) λ R' hn=>(K _ _ _ R' (h _ hn))
theorem zc{Q:Value->AH->Prop}(hk:k<=10000000)(h:∀D,U.get D=none->Q (.ref D) (U.put D (.rng 0 k))):WB C F n (.type "range") [vi k] m U (qe Q):=λ QE e O Z s W R K=>by
 refine aI e λ t=>(call_range_1 (K _ _ _ ((R.push O (ao:=.rng 0 k) (Hc k _ _ _ (HG ..) (af (Pl ..) ?_) (small_one (by decide) (by decide) (cS (by decide) (bQ _)) (eV (bY.mpr hk) (by decide))))).1) (h _ (R.fresh R.size_none))));refine eH (λ V=>?_) λ V=>?_<;>lia
theorem zb{Q:Value->AH->Prop}(ha:-10000000<=a)(UE :a<=10000000)(hb:-10000000<=b)(hb' :b<=10000000)(h:∀D,U.get D=none->Q (.ref D) (U.put D (.rng a (b-a).toNat))):WB C F n (.type "range") [vi a,vi b] m U (qe Q):=λ QE e O Z s W R K=>by
 refine PP e λ t u=>(call_range_2 (K _ _ _ ((R.push O (ao:=.rng a (b-a).toNat) (Hc b _ _ _ (HG ..) (af (Pl ..) ?_) (small_one (cS (by decide) ha) (eV UE (by decide)) (cS (by decide) hb) (eV hb' (by decide))))).1) (h _ (R.fresh R.size_none))));refine eH (λ V=>?_) λ V=>?_<;>lia
theorem za{Q:Value->AH->Prop}(ha:U.rd a=some (.list xs))(hz:xs.length<=10000000)(h:∀D,U.get D=none->Q (.ref D) (U.put D (.tup xs))):WB C F n (.type "tuple") [.ref a] m U (qe Q):=λ QE e O Z s W R K=>by
 refine aR e (ck (R.at ha) λ vs k hv hx=>?_)
 have hlen:=dw hx
 refine call_tuple_list (items:=vs.toArray) ⟨_,hv,rfl,_,rfl⟩ (λ h' hk=>?_) (ah bo (ah cB (ac (aC hlen) (ac hz (aj _ _)))))
 have R₁:cj C F Z {s with heap:=h' } m U:=R.grow O ⟨R.core.gens,R.core.os,R.core.dr⟩ hk
 exact (K _ _ _ ((R₁.push (tk:=s.toks) O (o:=wu vs.toArray 0) (xA hx)).1) (h _ (R₁.fresh R₁.size_none)))
theorem uD{Q:Value->AH->Prop}(ha:U.rd a=some (.list xs)\/U.rd a=some (.tup xs))(hz:xs.length<=10000000)(h:∀D,U.get D=none->Q (.ref D) (U.put D (.list xs))):WB C F n (.type "list") [.ref a] m U (qe Q):=λ QE e O Z s W R K=>by
 refine aR e ?_
 have key:∃(vs:List Value) (T:String) (o:Obj) (k:Nat),(T="list"\/T="tuple")/\s.heap.get? a=some o/\o.cls=.type T/\o.data=.seq vs.toArray k/\vs.map er=xs:=by
  rcases ha with ha | ha
  ·exact ck (R.at ha) λ vs k hv hx=>(Hb vs ("list") _ k (.inl rfl) hv rfl rfl hx)
  ·exact ck (R.at ha) λ vs k hv hx=>(Hb vs ("tuple") _ k (.inr rfl) hv rfl rfl hx)
 refine He key λ vs T o k hT ho hc hd hx=>?_;clear key
 have hlen:=dw hx
 refine call_list_seq a hT ho hc hd (λ h' c' hk hl=>(K _ _ _ (R.new (s' :={s with heap:=h' }) O ⟨R.core.gens,R.core.os,R.core.dr⟩ hk R.size_none (R.top O) (o:=.list xs) ⟨vs,c',hl,hx⟩) (h _ (R.fresh R.size_none)))) (ah bo (ah cB (ac (aC hlen) (ac hz (aj _ _)))))
end
end
section
section
variable{C:Cx}{F:c_}{n:Nat}{m:Str->Option Value}{U U' :AH}{Z Y Y' :List (Addr×Obj)}{s s' :aE}
noncomputable def Ax(C:Cx)(F:c_)(n:Nat):List Expr->List Value->(Str->Option Value)->AH->((Str->Option Value)->AH->Prop)->Prop
 | t::ts,v::vs,m,U,Q=>Hj C F n t v m U λ Q1 U1=>Ax C F n ts vs Q1 U1 Q
 | _,_,m,U,Q=>Q m U
theorem ki{Q:(Str->Option Value)->AH->Prop}(h:Hj C F n t v m U λ Q1 U1=>Ax C F n ts vs Q1 U1 Q):Ax C F n (t::ts) (v::vs) m U Q:=h
theorem yV{Q:(Str->Option Value)->AH->Prop}(h:Q m U):Ax C F n [] [] m U Q:=h
theorem Ax.run(O:F.Ok C n):∀(ts:List Expr) (vs:List Value) {m:Str->Option Value} {U:AH} {s:aE} {Q:(Str->Option Value)->AH->Prop} {W:Unit->aE->Prop},vs.length=ts.length->Ax C F n ts (vs.map er) m U Q->cj C F Z s m U->(∀s m U,cj C F Z s m U->Q m U->W () s)->
  br (bL C.prog C.w) F.A (qq (ts.map λ t=>jY t F.env) vs) W (λ V V=>False) s:=by
 intro ts
 induction ts with
 | nil=>
  intro vs m U s Q W hl h R K
  obtain rfl:=d7 hl
  exact l6 (K _ _ _ R h)
 | cons t ts ih=>
  intro vs m U s Q W hl h R K
  refine fg (List.exists_cons_of_length_eq_add_one hl) λ v vs QI=>?_;subst QI
  exact ed (h v rfl O Z s _ R λ s₁ Q1 U1 R₁ QC=>ih vs (iR hl) QC R₁ K)
theorem Gp{Q:(Str->Option Value)->AH->Prop}(h:WE C F n o m U λ ov U1=>WE C F n i m U1 λ iv QB=>WI C F n ov iv v m QB λ QG=>Q m QG):Hj C F n (.Subscript o i p) v m U Q:=λ v' e O Z s W R K=>ah (assign_Subscript ..) (ax (bR (h O Z s _ R λ ov s₁ U1 R₁ QC=>ax (bR (QC O Z s₁ _ R₁ λ iv s₂ QB R₂ QP=>(ax (d_ (ax (bR (QP ov iv v' rfl rfl e O Z s₂ _ R₂ λ V s₃ QG R₃ Q_=>Pj (K _ _ _ R₃ Q_)))))))))))
theorem tx{α:Type}(QV:List Expr)(f:Expr->α):(QV.map λ t=>(false,f t)).findIdx? (·.1)=none:=by
 refine io List.findIdx?_eq_none_iff ?_
 intro x hx
 refine aM (aJ.mp hx) λ t V QL=>?_;subst QL
 rfl
theorem Jd{Q:fH->(Str->Option Value)->AH->Prop}(hs:l7 [.Tuple QV k tp] e pos.line F.env=dG false)(hw:ef [.Tuple QV k tp] e F.env=dG none)
  (he:fA QV F.env=QV.map λ t=>(false,jY t F.env))
  (h:WE C F n e m U λ v U1=>∃a xs,v=.ref a/\U1.rd a=some (.tup xs)/\xs.length=QV.length/\Ax C F n QV xs m U1 λ m' U' =>Q .next m' U'):W1 C F n (.Assign [.Tuple QV k tp] e pos) m U Q:=λ O Z s W R K=>by
 refine sN (Qm (h O Z s _ R λ v s₁ U1 R₁ Q4=>(jk Q4 λ a xs e1 ha hl QC=>?_)) hs hw);clear Q4
 refine jz e1 (ck (R₁.at ha) λ vs c hv hx=>?_)
 have hlen:=dw hx
 refine Jn (items:=vs.toArray) O.handled ⟨_,hv,rfl,_,rfl⟩ (by rewrite [he,ae,bo];exact bx (ac (xb hl (az _)) (xb hlen (az _))) (ac (aC hlen) (aC hl))) (ah he (tx QV _)) λ h' hk=>?_
 have R₂:cj C F Z {s₁ with heap:=h' } m U1:=R₁.grow O ⟨R₁.core.gens,R₁.core.os,R₁.core.dr⟩ λ b o e=>hk b o (bu (bz e)) e
 have e2:(fA QV F.env).map (λ x=>x.2)=QV.map λ t=>jY t F.env:=ah he (af bC rfl)
 exact ah e2 (Ax.run O QV vs (bx (ac (aC hlen) (aC hl)) (ac (xb hl (az _)) (xb hlen (az _)))) (hx▸QC) R₂ λ s m U R h=>K _ _ _ _ R h)
theorem yW{Q:fH->(Str->Option Value)->AH->Prop}(hs:l7 [.Tuple QV k tp] e pos.line F.env=dG false)(hw:ef [.Tuple QV k tp] e F.env=dG (some [x,y]))
  (Sx:Stores F x) (Sy:Stores F y)
  (h:WE C F n e m U λ v U1=>∃a vx vy,v=.ref a/\U1.rd a=some (.tup [vx,vy])/\Q .next (fe (fe m y vy) x vx) U1):W1 C F n (.Assign [.Tuple QV k tp] e pos) m U Q:=λ O Z s W R K=>by
 refine sN (GM (h O Z s _ R λ v s₁ U1 R₁ Q4=>(vg Q4 λ a vx vy e1 ha QC=>?_)) hs hw);clear Q4
 refine jz e1 (ck (R₁.at ha) λ vs c hv hx=>?_)
 (try clear ha);refine jl (mY hx) λ a' b' QT QW QY=>?_;subst QT;subst QW;subst QY
 refine AU (items:=#[a',b']) O.handled ⟨_,hv,rfl,_,rfl⟩ λ h' hk=>?_
 have R₂:cj C F Z {s₁ with heap:=h' } m U1:=R₁.grow O ⟨R₁.core.gens,R₁.core.os,R₁.core.dr⟩ λ b o e=>hk b o (bu (bz e)) e
 refine ((ed (kT (ge O R₂ Sy λ s₃ R₃=>?_))):br _ _ (qq [xQ F.env y,xQ F.env x] [b',a']) _ _ _)
 exact ed (kT (ge O R₃ Sx λ s₄ R4=>l6 (K _ _ _ _ R4 QC)))
end
end
section
theorem sX(p:fB):t9 (KK p) 220:=by constructor<;>rfl
noncomputable def qU:List Str:=["known","heights","causes","row","begins","seen","liked","rows","watching","heats","gain","log","is_refuted","blamed","clashes","conflict_limit"]
noncomputable def te:List (Str×Addr):=[("says",83),("let",90),("back_to",97),("add_clause",123),("refute",130),("keep",137),("spread",144),("has_moved",151),("warm",156),("lesson",163),("height_of",170),("learn",177),("blame",182),("hottest",189),("decide",196),("solve",203),("value",210),("failed",217)]
noncomputable def Cm:List (Str×Addr):=[("ordered",62),("_law_draw",229),("_law_clause",234),("_law_keeps",239),("_law_able",244),("_law_left",249),("_law_clashes",254),("_law_log_right",259),("_law_answer_right",271)]
noncomputable def C5:List (Str×Value):=[("abs",.builtin "abs"),("len",.builtin "len"),("sorted",.builtin "sorted"),("range",.type "range"),("list",.type "list"),("tuple",.type "tuple"),("dict",.type "dict"),("bool",.type "bool"),("isinstance",.builtin "isinstance")]
theorem pj{α β:Type}{f g:α->β}{l:List α}{x:α}(h:l.map f=l.map g)(hx:x∈l):f x=g x:=DZ.mp h x hx
theorem Og(p:fB){x:Str}(h:x∈qU):gu (KK p) (.ref 220) x=some none:=pj (f:=gu (KK p) (.ref 220)) (g:=λ V=>some none) (by kernel_rfl) h
theorem OV(p:fB){x:Str}(h:x∈qU):DQ (KK p) 220 x=some none:=pj (f:=DQ (KK p) 220) (g:=λ V=>some none) (by kernel_rfl) h
theorem Nn(p:fB){q:Str×Addr}(h:q∈te):vS (KK p) 220 q.1 q.2:=
 ⟨pj (f:=λ q=>gu (KK p) (.ref 220) q.1) (g:=λ q=>some (some (.ref q.2))) (by kernel_rfl) h,pj (f:=λ q=>isFn (KK p) (.ref q.2)) (g:=λ V=>true) (by kernel_rfl) h,pj (f:=λ q=>DT (KK p) (.ref q.2)) (g:=λ V=>true) (by kernel_rfl) h⟩
theorem PH(p:fB){q:Str×Addr}(h:q∈Cm):oq (KK p) cX q.1=some (some (.ref q.2)):=pj (f:=λ q=>oq (KK p) cX q.1) (g:=λ q=>some (some (.ref q.2))) (by kernel_rfl) h
theorem GU(p:fB){q:Str×Value}(h:q∈C5):oq (KK p) cX q.1=some none:=pj (f:=λ q=>oq (KK p) cX q.1) (g:=λ V=>some none) (by kernel_rfl) h
theorem Hg{q:Str×Value}(h:q∈C5):fu q.1=some q.2:=pj (f:=λ q=>fu q.1) (g:=λ q=>some q.2) (by kernel_rfl) h
theorem th(p:fB):vS (KK p) 220 "height_of" 170:=Nn p (q:=("height_of",170)) (am (i:=10) rfl)
theorem w_(p:fB):gu (KK p) (.ref 220) "heights"=some none:=Og p (am (i:=1) rfl)
theorem Ik(p:fB):oq (KK p) cX "abs"=some none:=GU p (q:=("abs",.builtin "abs")) (am (i:=0) rfl)
theorem I2:fu "abs"=some (.builtin "abs"):=Hg (q:=("abs",.builtin "abs")) (am (i:=0) rfl)
section
variable{C:Cx}{F:c_}{n:Nat}{m:Str->Option Value}{U U' :AH}{X:Sx}{A A' :Ad}{S S' :SS}{me:Addr}{E E' :List (Addr×aT)}
theorem ql(x:Str)(p pos:Pos)(attr:Str)(env:Env):fF (.Attribute (.Name x p) attr pos) env=(do
   let o<-fF (.Name x p) env
   ft pos.atName
   let r<-eS [o] (rO o attr true)
   OF (.Name x p) o r
   dG r):=rfl
noncomputable def says(S:SS)(l:Int):Option Bool:=(lk S.known l.natAbs).map λ b=>b==decide (l>0)
noncomputable def wn:Option Bool->Value
 | none=> .none
 | some b=> .bool b
theorem Gg{Q:Bool->AH->Prop}(hm:ii op r=false)(h:WE C F n l m U λ a U1=>WE C F n r m U1 λ b QB=>iK C F n (a_ op) a b m QB (qe λ c QG=>WV C F n kW c m QG Q)):
  WT C F n (.Compare l [op] [r] pos) m U Q:=I' hm h
theorem G3{P Q:Prop}(hc:c=true)(h:P):if c=true then P else Q:=ah (if_pos hc) h
theorem tE{Q:Value->AH->Prop}(h:Q (.bool true) U):iK C F n (a_ .Is) .none .none m U (qe Q):=jJ rfl h
theorem yI{Q:Value->AH->Prop}(h:Q (.bool false) U):iK C F n (a_ .Is) (.bool b) .none m U (qe Q):=jJ rfl (by cases b<;>exact h)
theorem FH{Q:Value->AH->Prop}(h:Q (.bool false) U):iK C F n (a_ .Is) (vi b) .none m U (qe Q):=jJ rfl h
theorem FF{Q:Value->AH->Prop}(h:Q (.bool false) U):iK C F n (a_ .Is) (.ref b) .none m U (qe Q):=jJ rfl h
theorem Ab{Q:Value->AH->Prop}(h:Q (.bool o.isNone) U):iK C F n (a_ .Is) (wn o) .none m U (qe Q):=by
 cases o with
 | none=>exact tE h
 | some b=>exact yI h
theorem CM{Q:Value->AH->Prop}(h:Q (.bool o.isNone) U):iK C F n (a_ .Is) (vo o) .none m U (qe Q):=by
 cases o with
 | none=>exact tE h
 | some b=>exact FH h
theorem Ac{Q:Value->AH->Prop}(h:Q (.bool (o==some b)) U):iK C F n (a_ .Eq) (wn o) (.bool b) m U (qe Q):=by
 cases o with
 | none=>exact CO h
 | some c=>exact yJ h
theorem Aa{Q:Value->AH->Prop}(h:Q (.bool (!(o==some b))) U):iK C F n (a_ .NotEq) (wn o) (.bool b) m U (qe Q):=λ x y hx hy O Z s W R K=>by
 cases o with
 | none=>exact ah (ni hx) (ah (iu hy) (eT (Ek _) (K _ _ _ R h)))
 | some c=>exact ah (iu (b:=c) hx) (ah (iu hy) (eT (En _ _) (K _ _ _ R h)))
theorem Ia{Q:Value->AH->Prop}(h:Q (.bool (!b)) U):WV C F n (JN .Not) (.bool b) m U (qe Q):=λ a ha O Z s W R K=>ah (iu ha) (((ax (JL (aZ (K _ _ _ R h)))):br _ _ (do let c<-kW (.bool b);dG (gj (!c))) _ _ _))
theorem d0(h:U.get a=some o)(hr:∀ob v,o≠ .ro ob v):U.rd a=some o:=by
 unfold AH.rd
 refine ah h ?_
 (try clear h);cases o<;>first | rfl | exact absurd rfl (hr _ _)
theorem uN(h:U.get a=some (.ro o v)):U.rd a=some v:=by
 unfold AH.rd
 exact ah h rfl
theorem St.rd(T:St me A S U E)(t:rG)(h:gB A S t=some o)(hr:∀ob v,o≠ .ro ob v):U.rd (A t)=some o:=d0 (T.has t h) hr
theorem St.heats(T:St me A S U E):U.rd (A .heats)=some (.dict (lr vi S.heats)):=by
 have h:=T.has .heats rfl
 cases hl:S.lock with
 | none=>replace h:=hl▸h;exact d0 h (by intro _ _ h;cases h)
 | some o=>replace h:=hl▸h;exact uN h
theorem Gn{Q:Value->AH->Prop}(hk:F.env.kindOf x=some .globalImplicit)(hx:oq C.K cX x=some (some (.int i t)))(hd:(x==("__debug__":Str))=false)(h:Q (vi i) U):WE C F n (.Name x pos) m U Q:=Au hk hx hd h
noncomputable def XI(v:Value)(U:AH)(Q:Option Int->AH->Prop):Prop:=∃i,v=vi i/\Q (some i) U
theorem Gj{Q:Option Int->AH->Prop}(h:WE C F n e m U λ v U' =>XI v U' Q):WP C F n (some e) m U Q:=h
theorem fV(f:Nat->Addr)(k:Nat):(refsOf f k).length=k:=by unfold refsOf;exact af (ae ..) (af pH rfl)
theorem kI(f:Nat->Addr)(k i:Nat)(h:i<k):(refsOf f k)[i]? =some (.ref (f i)):=by
 unfold refsOf
 exact af ay (ah (gG h) rfl)
theorem pf(f g:Nat->Addr)(k:Nat)(a:Addr)(h1:∀i,i<k->g i=f i)(h2:g k=a):refsOf g (k+1)=refsOf f k++[.ref a]:=by
 unfold refsOf
 refine ah l_ (af aD (ah bc (ah h2 ?_)))
 congr 1
 exact dF λ i hi=>ah (h1 i (cE.mp hi)) rfl
theorem Gk{Q:Value->AH->Prop}(T:St me A S U E)(hm:m x=some (.ref me))(hl:nsLook attr (fields A S)=some v)(hn:gu (KK X.w.params) (.ref 220) attr=some none)(hv:oY v=true)(h:Q v U):
  WE (CX X) F n (.Attribute (.Name x p) attr pos) m U Q:=tX (ql _ _ _ _ _) (d6 hm (dI T.self (EM (T.inv.at_ .self _ rfl) (T.inv.at_ .ns _ rfl) hl (sX _) hn hv h)))
theorem w9(A:Ad)(S:SS):(fields A S).length<=900:=by simp [fields]
noncomputable def NS(attr:Str)(v:Value)(A:Ad)(S:SS)(U:AH)(K:AH->Prop):Prop:=K (U.put (A .ns) (.ns (je (fields A S) attr v)))
noncomputable def XA(attr x:Str)(m:Str->Option Value)(v:Value)(U:AH)(K:AH->Prop):Prop:=∃A S me E,St me A S U E/\m x=some (.ref me)/\NS attr v A S U K
theorem L7{K:AH->Prop}(T:St me A S U E)(hm:m x=some (.ref me))(h:NS attr v A S U K):XA attr x m v U K:=⟨_,_,_,_,T,hm,h⟩
theorem Gs{Q:fH->(Str->Option Value)->AH->Prop}(hs:iE e (some (.Attribute (.Name x p) attr p')) pos.line F.env=dG false)
  (ht:DQ (KK X.w.params) 220 attr=some none) (h:WE (CX X) F n e m U λ v U1=>XA attr x m v U1 (Q .next m)):
  W1 (CX X) F n (.Assign [.Attribute (.Name x p) attr p'] e pos) m U Q:=q0 hs (h.mono λ v U1 ⟨A,S,me,E,T,hm,q⟩=>d6 hm (yB _ _ _ _ (dI T.self rfl) (T.inv.at_ .self _ rfl) (T.inv.at_ .ns _ rfl) (sX _) ht (w9 _ _) q))
theorem Dy{Q:Value->AH->Prop}(T:St me A S U E)(hm:m x=some (.ref me))
  (he:fF (.Call (.Attribute (.Name x p) name Q5) args [] pos) F.env=(do
   let ov<-fF (.Name x p) F.env
   ft Q5.atName
   let (f,first)<-eS [ov] (kx ov name pl)
   kZ pos f first (eI pos (cO args F.env)) [])) (hp:noStar args) (hl:nsLook name (fields A S)=none) (hM:vS (KK X.w.params) 220 name f)
  (h:WL (CX X) F n args m U λ vs QB=>WC (CX X) n f (.ref me::vs) QB Q):WE (CX X) F n (.Call (.Attribute (.Name x p) name Q5) args [] pos) m U Q:=
 Gl he hp (d6 hm ⟨_,_,_,_,f,dI T.self rfl,T.inv.at_ .self _ rfl,T.inv.at_ .ns _ rfl,hl,sX _,hM,T.self▸h⟩)
theorem St.ns(T:St me A S U E)(S' :SS)(hS:je (fields A S) attr v=fields A S')(h4:∀u,u≠ .ns->(gB A S' u=none\/gB A S' u=gB A S u))(Z:mM S'):St me A S' (U.put (A .ns) (.ns (je (fields A S) attr v))) E:=
 T.put .ns trivial (ah hS rfl) h4 Z
theorem St.nsN(T:St me A S U ((a,o)::E))(t:rG)(A' :Ad)(S' :SS)(e1:A' t=a)(e2:∀u,u≠t->A' u=A u)(ht:gB A' S' t=some o)(Tv:t≠ .ns)(hts:rG.self≠t)
  (hS:je (fields A S) attr (.ref a)=fields A' S') (h4:∀u,u≠t->u≠ .ns->(gB A' S' u=none\/gB A' S' u=gB A S u)) (Z:mM S'):St me A' S' (U.put (A .ns) (.ns (je (fields A S) attr (.ref a)))) E:=
 T.upd t .ns e1 e2 (λ q hq=>by replace hq:=ht▸hq;exact (aO hq).symm) Tv hts trivial (ah hS ((rfl:some (aT.ns _)=_))) h4 Z
end
section
variable{m:Str->Option Value}{U U' :AH}{A A' :Ad}{S S' :SS}{me:Addr}{E E' :List (Addr×aT)}{Q:AH->Prop}
theorem zy(T:St me A S U ((a,.list xs)::E))(hx:xs=bs.map vn)(hz:bs.length<=100000)(h:∀A' U',(∀u,u≠ .begins->A' u=A u)->St me A' (S.uBegins bs) U' E->Q U'):NS "begins" (.ref a) A S U Q:=by
 subst hx
 exact h (uB A a) _ (λ u hu=>by cases u<;>first | rfl | exact absurd rfl hu) (T.nsN .begins (uB A a) (S.uBegins bs) rfl (λ u hu=>by cases u<;>first | rfl | exact absurd rfl hu) rfl (by simp) (by simp) rfl (λ u hu hv=>by cases u<;>first | exact .inr rfl | exact absurd rfl hu | exact absurd rfl hv) {T.fit with z8:=hz})
theorem BS(T:St me A S U ((a,.dict kv)::E))(hl:S.lock=none)(hx:kv=lr vi hs)(hz:Kv hs)(h:∀A' U',(∀u,u≠ .heats->A' u=A u)->St me A' (S.uHeats hs) U' E->Q U'):NS "heats" (.ref a) A S U Q:=by
 subst hx
 exact h (xZ A a) _ (λ u hu=>by cases u<;>first | rfl | exact absurd rfl hu) (T.nsN .heats (xZ A a) (S.uHeats hs) rfl (λ u hu=>by cases u<;>first | rfl | exact absurd rfl hu) (((ah hl rfl):some (kM S.lock _)=_)) (by simp) (by simp) rfl (λ u hu hv=>by cases u<;>first | exact .inr rfl | exact absurd rfl hu | exact absurd rfl hv) {T.fit with v5:=hz})
theorem zw(T:St me A S U ((a,.tup xs)::E))(hx:xs=bs.map vi)(h:∀A' U',(∀u,u≠ .blamed->A' u=A u)->St me A' (S.uBlamed bs) U' E->Q U'):NS "blamed" (.ref a) A S U Q:=by
 subst hx
 exact h (uA A a) _ (λ u hu=>by cases u<;>first | rfl | exact absurd rfl hu) (T.nsN .blamed (uA A a) (S.uBlamed bs) rfl (λ u hu=>by cases u<;>first | rfl | exact absurd rfl hu) rfl (by simp) (by simp) rfl (λ u hu hv=>by cases u<;>first | exact .inr rfl | exact absurd rfl hu | exact absurd rfl hv) {T.fit with})
end
section
variable{C:Cx}{F:c_}{n:Nat}{m:Str->Option Value}{U U' :AH}{A A' :Ad}{S S' :SS}{me:Addr}{E E' :List (Addr×aT)}
theorem qW{α:Type}{f:α->Value}{r:List (Int×α)}{x:α}{Q:AH->Prop}(t:rG)(S' :SS)(T:St me A S U E)(ht:gB A S t=some (.dict (lr f r)))(hk:jE r)(hz:r.length<=1000000)(hS:gB A S' t=some (.dict (lr f (ins r k x))))
  (h4:∀u,u≠t->(gB A S' u=none\/gB A S' u=gB A S u)) (Z:mM S') (h:∀U',St me A S' U' E->Q U'):WI C F n (.ref (A t)) (vi k) (f x) m U Q:=by
 refine oG (T.has _ ht) (by unfold lr;exact ah (ae ..) (ac hz (aj _ _))) (h _ ?_)
 exact ah (kH f r k x hk) (T.put t (d9.mpr ⟨_,ht⟩) hS h4 Z)
theorem Bc{k:Int}{b:Bool}{Q:AH->Prop}(T:St me A S U E)(h0:0<=k/\k<=1000)(h:∀U',St me A (S.uKnown (ins S.known k b)) U' E->Q U'):WI C F n (.ref (A .known)) (vi k) (.bool b) m U Q:=
 qW (f:=vb) .known (S.uKnown (ins S.known k b)) T rfl T.fit.k1 (by have:=T.fit.z1;exact ac this (aj _ _)) rfl (λ u hu=>by cases u<;>first | exact .inr rfl | exact absurd rfl hu) {T.fit with v1:=T.fit.v1.ins _ h0.1 h0.2} h
theorem Bb{k:Int}{b:Bool}{Q:AH->Prop}(T:St me A S U E)(h0:0<=k/\k<=1000)(h:∀U',St me A (S.uLiked (ins S.liked k b)) U' E->Q U'):WI C F n (.ref (A .liked)) (vi k) (.bool b) m U Q:=
 qW (f:=vb) .liked (S.uLiked (ins S.liked k b)) T rfl T.fit.k4 (by have:=T.fit.z4;exact ac this (aj _ _)) rfl (λ u hu=>by cases u<;>first | exact .inr rfl | exact absurd rfl hu) {T.fit with v4:=T.fit.v4.ins _ h0.1 h0.2} h
theorem wj{k:Int}{b:Nat}{Q:AH->Prop}(T:St me A S U E)(h0:0<=k/\k<=1000)(h:∀U',St me A (S.uHeights (ins S.heights k b)) U' E->Q U'):WI C F n (.ref (A .heights)) (vi k) (vi (b:Int)) m U Q:=
 qW (f:=vn) .heights (S.uHeights (ins S.heights k b)) T rfl T.fit.k2 (by have:=T.fit.z2;exact ac this (aj _ _)) rfl (λ u hu=>by cases u<;>first | exact .inr rfl | exact absurd rfl hu) {T.fit with v2:=T.fit.v2.ins _ h0.1 h0.2} h
theorem y_{k:Int}{b:Option Nat}{Q:AH->Prop}(T:St me A S U E)(h0:0<=k/\k<=1000)(h:∀U',St me A (S.uCauses (ins S.causes k b)) U' E->Q U'):WI C F n (.ref (A .causes)) (vi k) (vo b) m U Q:=
 qW (f:=vo) .causes (S.uCauses (ins S.causes k b)) T rfl T.fit.k3 (by have:=T.fit.z3;exact ac this (aj _ _)) rfl (λ u hu=>by cases u<;>first | exact .inr rfl | exact absurd rfl hu) {T.fit with v3:=T.fit.v3.ins _ h0.1 h0.2} h
theorem Bd{k:Int}{b:Int}{Q:AH->Prop}(T:St me A S U E)(hl:S.lock=none)(h0:0<=k/\k<=1000)(h:∀U',St me A (S.uHeats (ins S.heats k b)) U' E->Q U'):WI C F n (.ref (A .heats)) (vi k) (vi b) m U Q:=
 qW (f:=vi) .heats (S.uHeats (ins S.heats k b)) T (((ah hl rfl):some (kM S.lock _)=_)) T.fit.k5 (by have:=T.fit.z5;exact ac this (aj _ _)) (((ah hl rfl):some (kM S.lock _)=_)) (λ u hu=>by cases u<;>first | exact .inr rfl | exact absurd rfl hu) {T.fit with v5:=T.fit.v5.ins _ h0.1 h0.2} h
theorem tS{Q:Value->AH->Prop}(t:rG)(S' :SS)(T:St me A S U E)(ht:gB A S t=some (.list xs))(hz:xs.length<=1000000)(hS:gB A S' t=some (.list (xs++[v])))
  (h4:∀u,u≠t->(gB A S' u=none\/gB A S' u=gB A S u)) (Z:mM S') (h:∀U',St me A S' U' E->Q .none U'):WB C F n (.builtin "list.append") [.ref (A t),v] m U (qe Q):=
 ke (T.has _ ht) (ac hz (aj _ _)) (h _ (T.put t (d9.mpr ⟨_,ht⟩) hS h4 Z))
theorem Ga{Q:Value->AH->Prop}(T:St me A S U E)(hl:-1000<=l/\l<=1000)(hz:S.row.length<100000)(h:∀U',St me A (S.uRow (S.row++[l])) U' E->Q .none U'):WB C F n (.builtin "list.append") [.ref (A .row),vi l] m U (qe Q):=
 tS .row (S.uRow (S.row++[l])) T rfl (ah (ae ..) (aP (aq hz (aj _ _)))) (((ah aD rfl):some (aT.list (ln vi (S.row++[l])))=_)) (λ u hu=>by cases u<;>first | exact .inr rfl | exact absurd rfl hu)
  {T.fit with z7:=((ah av (ah aG (bK hz))):(S.row++[l]).length<=_),lit:=λ x hx=>(aw.mp hx).elim (T.fit.lit x) λ h=>ah (al.mp h) hl} h
theorem xB{k:Nat}{Q:Value->AH->Prop}(T:St me A S U E)(hz:S.begins.length<100000)(h:∀U',St me A (S.uBegins (S.begins++[k])) U' E->Q .none U'):WB C F n (.builtin "list.append") [.ref (A .begins),vi (k:Int)] m U (qe Q):=
 tS .begins (S.uBegins (S.begins++[k])) T rfl (ah (ae ..) (aP (aq hz (aj _ _)))) (((ah aD rfl):some (aT.list (ln vn (S.begins++[k])))=_)) (λ u hu=>by cases u<;>first | exact .inr rfl | exact absurd rfl hu)
  {T.fit with z8:=((ah av (ah aG (bK hz))):(S.begins++[k]).length<=_)} h
theorem I7{k:Nat}{Q:Value->AH->Prop}(T:St me A S U E)(hw:lk S.watch l=some w)(hz:w.length<100000)(h:∀U',St me A (S.uWatch (ins S.watch l (w++[k]))) U' E->Q .none U'):WB C F n (.builtin "list.append") [.ref (A (.wl l)),vi (k:Int)] m U (qe Q):=by
 have hkeys:∀(r:List (Int×List Nat)),(∀x,lk r l=some x->(ins r l (w++[k])).map (λ p=>(p.1,bA (A (.wl p.1))))=r.map (λ p=>(p.1,bA (A (.wl p.1))))):=by
  intro r
  induction r with
  | nil=>intro x h;exact (bw h).elim
  | cons p r ih=>
   obtain ⟨a,b⟩:=p
   intro x hx
   unfold lk at hx
   unfold ins
   by_cases e:a=l
   ·exact ah (if_pos e) rfl
   ·rw [if_neg e] at hx⊢;exact af bc (ah bc (ah (ih x hx) rfl))
 have hkv:Kw (ins S.watch l (w++[k])):=by
  refine ⟨(h_ _ _ _ T.fit.k6).1,λ j hj=>?_⟩
  clear h hkeys;rcases ((h_ _ _ _ T.fit.k6).2 j).mp hj with rfl | hj
  ·have:j∈S.watch.map (·.1):=by
    rcases Ef (j∈S.watch.map (·.1)) with h | h
    ·exact h
    ·replace hw:=(gF _ _).mpr h▸hw;exact (bw hw).elim
   exact T.fit.v6.2 j this
  ·exact T.fit.v6.2 j hj
 refine tS (.wl l) (S.uWatch (ins S.watch l (w++[k]))) T (((ah hw rfl):(lk S.watch l).map _=_)) (ah (ae ..) (aP (aq hz (aj _ _)))) ?_ (λ u hu=>?_) {T.fit with v6:=hkv} h
 ·refine (?_:(lk (ins S.watch l (w++[k])) l).map _=_)
  exact ah (eB ..) (ah (if_pos rfl) (af (fb ..) (ah aD rfl)))
 ·cases u with
  | wl j=>
   refine .inr (?_:(lk (ins S.watch l (w++[k])) j).map _=(lk S.watch j).map _)
   exact ah (eB ..) (ah (if_neg λ e=>hu (by exact ah e rfl)) rfl)
  | watching=>exact .inr (by refine (?_:some (aT.dict _)=some (aT.dict _));exact ah (hkeys S.watch _ hw) rfl)
  | _=>exact .inr rfl
theorem ID{Q:Value->AH->Prop}(T:St me A S U E)(hw:lk S.watch l=some w)(hb:(b,.list xs)∈E)(hx:xs=u.map vn)(hz:w.length+u.length<=100000)
  (h:∀U',St me A (S.uWatch (ins S.watch l (w++u))) U' E->Q .none U'):WB C F n (.builtin "list.extend") [.ref (A (.wl l)),.ref b] m U (qe Q):=by
 subst hx
 have hkeys:∀(r:List (Int×List Nat)),(∀x,lk r l=some x->(ins r l (w++u)).map (λ p=>(p.1,bA (A (.wl p.1))))=r.map (λ p=>(p.1,bA (A (.wl p.1))))):=by
  intro r
  induction r with
  | nil=>intro x h;exact (bw h).elim
  | cons p r ih=>
   obtain ⟨a,b⟩:=p
   intro x hx
   unfold lk at hx
   unfold ins
   by_cases e:a=l
   ·exact ah (if_pos e) rfl
   ·rw [if_neg e] at hx⊢;exact af bc (ah bc (ah (ih x hx) rfl))
 have hkv:Kw (ins S.watch l (w++u)):=by
  refine ⟨(h_ _ _ _ T.fit.k6).1,λ j hj=>?_⟩
  clear h hkeys;rcases ((h_ _ _ _ T.fit.k6).2 j).mp hj with rfl | hj
  ·have:j∈S.watch.map (·.1):=by
    rcases Ef (j∈S.watch.map (·.1)) with h | h
    ·exact h
    ·replace hw:=(gF _ _).mpr h▸hw;exact (bw hw).elim
   exact T.fit.v6.2 j this
  ·exact T.fit.v6.2 j hj
 have hl:gB A S (.wl l)=some (.list (w.map vn)):=((ah hw rfl):(lk S.watch l).map _=_)
 refine Aj (T.has _ hl) (d0 (T.at_ hb) (by intro _ _ h;cases h)) (ah (ae ..) (ah (ae ..) (ac hz (aj _ _)))) (h _ (T.put (.wl l) (d9.mpr ⟨_,hl⟩) ?_ (λ u hu=>?_) {T.fit with v6:=hkv}))
 ·refine (?_:(lk (ins S.watch l (w++u)) l).map _=_)
  exact ah (eB ..) (ah (if_pos rfl) (af (fb ..) (ah aD rfl)))
 ·cases u with
  | wl j=>
   exact .inr (((ah (eB ..) (ah (if_neg λ e=>hu (by exact ah e rfl)) rfl)):(lk (ins S.watch l (w++_)) j).map _=(lk S.watch j).map _))
  | watching=>exact .inr (by refine (?_:some (aT.dict _)=some (aT.dict _));exact ah (hkeys S.watch _ hw) rfl)
  | _=>exact .inr rfl
theorem Gb{Q:Value->AH->Prop}(T:St me A S U ((a,.tup xs)::E))(hx:xs=c.map vi)(hz:S.log.length<100000)(h:∀A' U',(∀u,u≠ .logT S.log.length->A' u=A u)->St me A' (S.uLog (S.log++[c])) U' E->Q .none U'):WB C F n (.builtin "list.append") [.ref (A .log),.ref a] m U (qe Q):=by
 subst hx
 have e2:∀u,u≠ .logT S.log.length->wq A S.log.length a u=A u:=λ u hu=>by
  cases u with
  | logT i=>exact if_neg λ e=>hu (by exact ah e rfl)
  | _=>rfl
 have et:gB (wq A S.log.length a) (S.uLog (S.log++[c])) (.logT S.log.length)=some (.tup (c.map vi)):=((ah (bI (az _)) (ah (gC ..) rfl)):((S.log++[c])[S.log.length]?).map _=_)
 have eW:refsOf (λ i=>wq A S.log.length a (.logT i)) (S.log++[c]).length=refsOf (λ i=>A (.logT i)) S.log.length++[.ref a]:=by
  refine ah av (ah aG (pf _ _ _ _ (λ i hi=>if_neg (bu hi)) (if_pos rfl)))
 refine ke (T.has .log rfl) (ah (fV ..) (aP (aq hz (aj _ _)))) (h _ _ e2 (T.upd (.logT S.log.length) .log (if_pos rfl) e2 (λ q hq=>by replace hq:=et▸hq;exact (aO hq).symm) (by simp) (by simp) trivial (by refine (?_:some (aT.list _)=_);exact ah eW rfl) (λ u hu hv=>?_)
  {T.fit with z10:=((ah av (ah aG (bK hz))):(S.log++[c]).length<=_)}))
 cases u with
 | logT i=>
  have:i≠S.log.length:=λ e=>hu (ah e rfl)
  by_cases hi:i<S.log.length
  ·right;exact ((ah (bN hi) rfl):ll _ ((S.log++[c])[i]?)=ll _ (S.log[i]?))
  ·left;refine ((ah (bt (by refine ah av (ah aG ?_);exact dy (dC hi) this.symm)) ?_):ll _ ((S.log++[c])[i]?)=none);rfl
 | log=>exact absurd rfl hv
 | _=>exact .inr rfl
theorem Dj{Q:Value->AH->Prop}(T:St me A S U ((a,.list xs)::E))(hx:xs=c.map vi)(hz:S.rows.length<100000)(h:∀A' U',(∀u,u≠ .rowL S.rows.length->A' u=A u)->St me A' (S.uRows (S.rows++[c])) U' E->Q .none U'):WB C F n (.builtin "list.append") [.ref (A .rows),.ref a] m U (qe Q):=by
 subst hx
 have e2:∀u,u≠ .rowL S.rows.length->wo A S.rows.length a u=A u:=λ u hu=>by
  cases u with
  | rowL i=>exact if_neg λ e=>hu (by exact ah e rfl)
  | _=>rfl
 have et:gB (wo A S.rows.length a) (S.uRows (S.rows++[c])) (.rowL S.rows.length)=some (.list (c.map vi)):=((ah (bI (az _)) (ah (gC ..) rfl)):((S.rows++[c])[S.rows.length]?).map _=_)
 have eW:refsOf (λ i=>wo A S.rows.length a (.rowL i)) (S.rows++[c]).length=refsOf (λ i=>A (.rowL i)) S.rows.length++[.ref a]:=by
  refine ah av (ah aG (pf _ _ _ _ (λ i hi=>if_neg (bu hi)) (if_pos rfl)))
 refine ke (T.has .rows rfl) (ah (fV ..) (aP (aq hz (aj _ _)))) (h _ _ e2 (T.upd (.rowL S.rows.length) .rows (if_pos rfl) e2 (λ q hq=>by replace hq:=et▸hq;exact (aO hq).symm) (by simp) (by simp) trivial (by refine (?_:some (aT.list _)=_);exact ah eW rfl) (λ u hu hv=>?_)
  {T.fit with z9:=((ah av (ah aG (bK hz))):(S.rows++[c]).length<=_)}))
 cases u with
 | rowL i=>
  have:i≠S.rows.length:=λ e=>hu (ah e rfl)
  by_cases hi:i<S.rows.length
  ·right;exact ((ah (bN hi) rfl):ll _ ((S.rows++[c])[i]?)=ll _ (S.rows[i]?))
  ·left;refine ((ah (bt (by refine ah av (ah aG ?_);exact dy (dC hi) this.symm)) ?_):ll _ ((S.rows++[c])[i]?)=none);rfl
 | rows=>exact absurd rfl hv
 | _=>exact .inr rfl
theorem EF{Q:Value->AH->Prop}(T:St me A S U E)(hr:S.row=r++[l])(h:∀U',St me A (S.uRow r) U' E->Q (vi l) U'):WB C F n (.builtin "list.pop") [.ref (A .row)] m U (qe Q):=by
 have hz:=T.fit.z7
 replace hz:=aG▸av▸hr▸hz
 exact FS (xs:=r.map vi) (T.has .row (((ah hr (ah aD rfl)):some (aT.list (ln vi S.row))=_))) (ah (ae ..) (ac (aP (bn _)) (ac hz (aj _ _))))
  (h _ (T.put .row trivial rfl (λ u hu=>by cases u<;>first | exact .inr rfl | exact absurd rfl hu) {T.fit with z7:=((ac (aB _ _) hz):r.length<=_),lit:=λ x hx=>T.fit.lit x (ah hr (ak _ hx))}))
theorem zu{Q:Value->AH->Prop}(T:St me A S U E)(hk:lk S.known k=some b)(h:∀U',St me A (S.uKnown (del S.known k)) U' E->Q (.bool b) U'):WB C F n (.builtin "dict.pop") [.ref (A .known),vi k] m U (qe Q):=by
 refine FQ (T.has .known rfl) (by unfold lr;refine ah (ae ..) ?_;have:=T.fit.z1;exact ac this (aj _ _)) (af (fX ..) (ah hk rfl)) (h _ ?_)
 exact ah (uy ..) (T.put .known trivial rfl (λ u hu=>by cases u<;>first | exact .inr rfl | exact absurd rfl hu) {T.fit with v1:=T.fit.v1.del _})
theorem BF{Q:Value->AH->Prop}(T:St me A S U E)(hl:S.lock=none)(h0:0<=k/\k<=1000)(h:∀v U',St me A (S.uHeats (if (lk S.heats k).isSome then S.heats else ins S.heats k 0)) U' E->Q v U'):WB C F n (.builtin "dict.setdefault") [.ref (A .heats),vi k,vi 0] m U (qe Q):=by
 refine mX (T.has .heats (((ah hl rfl):some (kM S.lock _)=_))) (by unfold lr;refine ah (ae ..) ?_;have:=T.fit.z5;exact ac this (aj _ _)) ?_
 refine ah (fX ..) ?_
 cases e:lk S.heats k with
 | some v=>replace h:=e▸h;exact h _ _ T
 | none=>
  replace h:=e▸h
  exact h _ _ (ah (kH vi S.heats k 0 T.fit.k5) (T.put .heats trivial (((ah hl rfl):some (kM S.lock _)=_)) (λ u hu=>by cases u<;>first | exact .inr rfl | exact absurd rfl hu) {T.fit with v5:=T.fit.v5.ins _ h0.1 h0.2}))
theorem w7{Q:Value->AH->Prop}(T:St me A S U E)(hk:S.begins[k]? =some b)(h:Q (vn b) U):WG C F n (.ref (A .begins)) (vn k) m U Q:=
 lQ (v:=vn b) (T.rd .begins rfl (by intro _ _ h;cases h)) (bQ _) (by refine ah (ae ..) ?_;have:=T.fit.z8;exact ac this (aj _ _)) (af ay (ah (gd ..) (ah hk rfl))) h
theorem Fv{Q:Value->AH->Prop}(T:St me A S U E)(hk:S.row[k]? =some l)(h:Q (vi l) U):WG C F n (.ref (A .row)) (vn k) m U Q:=
 lQ (v:=vi l) (T.rd .row rfl (by intro _ _ h;cases h)) (bQ _) (by refine ah (ae ..) ?_;have:=T.fit.z7;exact ac this (aj _ _)) (af ay (ah (gd ..) (ah hk rfl))) h
theorem Cn{Q:Value->AH->Prop}(T:St me A S U E)(hk:k<S.rows.length)(h:Q (.ref (A (.rowL k))) U):WG C F n (.ref (A .rows)) (vn k) m U Q:=
 lQ (v:=.ref (A (.rowL k))) (T.rd .rows rfl (by intro _ _ h;cases h)) (bQ _) (by refine ah (fV ..) ?_;have:=T.fit.z9;exact ac this (aj _ _)) (ah (gd ..) (kI _ _ _ hk)) h
theorem lN(hk:S.rows[k]? =some r):gB A S (.rowL k)=some (.list (r.map vi)):=((ah hk rfl):(S.rows[k]?).map _=_)
theorem Co{Q:Value->AH->Prop}(T:St me A S U E)(hk:S.rows[k]? =some r)(h0:0<=j)(hz:r.length<=1000000)(hj:r[j.toNat]? =some l)(h:Q (vi l) U):WG C F n (.ref (A (.rowL k))) (vi j) m U Q:=
 lQ (v:=vi l) (T.rd (.rowL k) (lN hk) (by intro _ _ h;cases h)) h0 (ah (ae ..) (ac hz (aj _ _))) (af ay (ah hj rfl)) h
theorem u8{Q:Value->AH->Prop}(T:St me A S U E)(hk:lk S.heights k=some b)(h:Q (vn b) U):WG C F n (.ref (A .heights)) (vi k) m U Q:=
 nU (T.rd .heights rfl (by intro _ _ h;cases h)) (af (fX ..) (ah hk rfl)) h
theorem w6{Q:Value->AH->Prop}(T:St me A S U E)(hk:lk S.causes k=some b)(h:Q (vo b) U):WG C F n (.ref (A .causes)) (vi k) m U Q:=
 nU (T.rd .causes rfl (by intro _ _ h;cases h)) (af (fX ..) (ah hk rfl)) h
theorem zW{Q:Value->AH->Prop}(T:St me A S U E)(hk:lk S.heats k=some b)(h:Q (vi b) U):WG C F n (.ref (A .heats)) (vi k) m U Q:=
 nU T.heats (af (fX ..) (ah hk rfl)) h
theorem BB{Q:AH->Prop}(T:St me A S U E)(hk:S.rows[k]? =some r)(h0:0<=j)(hz:r.length<=1000000)(hj:j<r.length)(h:∀R U',R=S.rows.set k (r.set j.toNat l)->R[k]? =some (r.set j.toNat l)->St me A (S.uRows R) U' E->Q U'):WI C F n (.ref (A (.rowL k))) (vi j) (vi l) m U Q:=by
 have hlt:=(ag.mp hk).1
 refine BC (T.has (.rowL k) (lN hk)) h0 (ah (ae ..) (ac hz (aj _ _))) (ah (ae ..) hj) (h _ _ rfl (af (dc hlt) rfl) ?_)
 refine dI JX (T.put (.rowL k) hlt (lN (af (dc hlt) rfl)) (λ u hu=>?_) {T.fit with z9:=((ah bZ T.fit.z9):(S.rows.set _ _).length<=_)})
 cases u with
 | rowL i=>
  right
  exact ((ah (m7 λ e=>hu (by exact ah e rfl)) rfl):((S.rows.set k (r.set j.toNat l))[i]?).map _=_)
 | rows=>right;refine (?_:some (aT.list _)=some (aT.list _));exact ah bZ rfl
 | _=>exact .inr rfl
theorem u4{α:Type}:∀(r:List (Int×α)) (l:Int) (v:α),lk r l=some v->ins r l v=r
 | [],l,v,h=>(bw h).elim
 | (k,w)::r,l,v,h=>by
  unfold lk at h
  unfold ins
  by_cases e:k=l
  ·rw [if_pos e] at h⊢;exact ah (aO h) rfl
  ·rw [if_neg e] at h⊢;exact ah (u4 r l v h) rfl
theorem tu{α:Type}:∀(r:List (Int×α)) (l:Int) (v w:α),ins (ins r l v) l w=ins r l w
 | [],l,v,w=>by simp [ins]
 | (k,x)::r,l,v,w=>by
  refine (?_:ins (if k=l then (k,v)::r else (k,x)::ins r l v) l w=if k=l then (k,w)::r else (k,x)::ins r l w)
  by_cases e:k=l
  ·exact ah (if_pos e) (ah (if_pos e) (((af (if_pos e) rfl):(if k=l then _ else _)=_)))
  ·refine ah (if_neg e) (ah (if_neg e) (?_:(if k=l then _ else _)=_));exact af (if_neg e) (ah (tu r l v w) rfl)
theorem kK{α β:Type}(f:Int×α->β)(g:Int×α->β):∀(r:List (Int×α)) (l:Int) (v:α),lk r l=none->(∀p∈r,g p=f p)->(ins r l v).map g=r.map f++[g (l,v)]
 | [],l,v,_,_=>rfl
 | (k,x)::r,l,v,h,hg=>by
  unfold lk at h
  unfold ins
  by_cases e:k=l
  ·replace h:=if_pos e▸h;exact (gY h).elim
  ·rw [if_neg e] at h⊢
   exact af bc (ah (kK f g r l v h λ p hp=>hg p (.tail _ hp)) (ah bc (ah (hg _ (.head _)) rfl)))
theorem kG(r:List (Int×Value))(l:Int)(v:Value)(h:l∉r.map (·.1)):cW r l v=r++[(l,v)]:=by
 unfold cW
 have:r.any (λ p=>decide (p.1=l))=false:=by
  refine io pI ?_;intro p hp;simp only [decide_eq_true_eq];exact λ e=>h (e▸bf hp)
 simp [this]
theorem tC(A:Ad):∀(W:List (Int×List Nat)) (l:Int),ig (W.map λ p=>(p.1,bA (A (.wl p.1)))) l=(lk W l).map λ V=>bA (A (.wl l))
 | [],l=>rfl
 | (k,v)::r,l=>by
  have ih:=tC A r l
  unfold ig dn at ih⊢
  simp only [bc,ma,lk]
  by_cases h:k=l
  ·(try clear ih);subst h;simp
  ·simp only [h,decide_false,if_false];exact ih
theorem BE{Q:Value->AH->Prop}(T:St me A S U ((D,.list [])::E))(h0:-1000<=l/\l<=1000)
  (h:∀A' U' W,(∀u,live S u->A' u=A u)->W=ins S.watch l ((lk S.watch l).getD [])->lk W l=some ((lk S.watch l).getD [])->St me A' (S.uWatch W) U' E->Q (.ref (A' (.wl l))) U'):WB C F n (.builtin "dict.setdefault") [.ref (A .watching),vi l,.ref D] m U (qe Q):=by
 refine mX (T.has .watching rfl) (by refine ah (ae ..) ?_;have:=T.fit.z6;exact ac this (aj _ _)) ?_
 refine ah (tC ..) ?_
 have hl:lk (ins S.watch l ((lk S.watch l).getD [])) l=some ((lk S.watch l).getD []):=af (eB ..) (af (if_pos rfl) rfl)
 cases e:lk S.watch l with
 | some v=>
  refine h A U S.watch (λ V V=>rfl) ?_ ?_ T.drop
  ·exact ah e ((u4 _ _ _ e).symm)
  ·rewrite [e];rfl
 | none=>
  have e2:∀u,u≠ .wl l->sP A l D u=A u:=λ u hu=>by
   cases u with
   | wl i=>exact if_neg λ e=>hu (by exact ah e rfl)
   | _=>rfl
  have hk:=(gF S.watch l).mp e
  have hne:∀p∈S.watch,¬p.1=l:=λ p hp e=>hk (e▸bf hp)
  have eD:bA D=.ref (sP A l D (.wl l)):=((ah (if_pos rfl) rfl):_=bA (if l=l then D else _))
  refine (?_:Q (.ref D) _)
  refine ah eD (h (sP A l D) _ _ (λ u hu=>e2 u λ q=>by subst q;rewrite [live] at hu;replace hu:=e▸hu;exact (jD hu).elim) rfl hl (ah e (ah (kG _ _ _ (ah bC hk)) ?_)))
  refine T.upd (.wl l) .watching (if_pos rfl) e2 (λ q hq=>?_) (by simp) (by simp) trivial ?_ (λ u hu hv=>?_) {T.fit with v6:=T.fit.v6.ins _ h0.1 h0.2}
  ·have:gB (sP A l D) (S.uWatch (ins S.watch l ((none:Option (List Nat)).getD []))) (.wl l)=some (.list []):=by
    refine (?_:(lk (ins S.watch l _) l).map _=_);refine ah (eB ..) (ah (if_pos rfl) ?_);rfl
   replace hq:=this▸hq;exact (aO hq).symm
  ·refine (?_:some (aT.dict _)=_)
   exact ah (kK (λ p=>(p.1,bA (A (.wl p.1)))) (λ p=>(p.1,bA (sP A l D (.wl p.1)))) _ _ _ e λ p hp=>by refine (?_:(p.1,bA (if p.1=l then D else _))=_);exact ah (if_neg (hne p hp)) rfl) rfl
  ·cases u with
   | wl j=>
    right
    refine (?_:(lk (ins S.watch l _) j).map _=(lk S.watch j).map _)
    exact ah (eB ..) (ah (if_neg λ e=>hu (by exact ah e rfl)) rfl)
   | watching=>exact absurd rfl hv
   | _=>exact .inr rfl
theorem St.wl_at(T:St me A S U E)(h:lk S.watch l=some w):U.get (A (.wl l))=some (.list (w.map vn)):=T.has (.wl l) (((ah h rfl):(lk S.watch l).map _=_))
theorem HM{Q:Value->AH->Prop}(T:St me A S U ((D,.list [])::E))
  (h:∀a U',St me A (S.uWatch (del S.watch l)) U' ((a,.list (((lk S.watch l).getD []).map vn))::E)->Q (.ref a) U'):WB C F n (.builtin "dict.pop") [.ref (A .watching),vi l,.ref D] m U (qe Q):=by
 refine FP (T.has .watching rfl) (by refine ah (ae ..) ?_;have:=T.fit.z6;exact ac this (aj _ _)) ?_
 refine ah (tC ..) ?_
 cases e:lk S.watch l with
 | none=>
  replace h:=e▸h
  refine h D U ?_
  have:del S.watch l=S.watch:=by
   unfold del
   refine gH.mpr λ p hp=>?_
   simp only [ne_eq,decide_eq_true_eq]
   exact λ q=>(gF _ _).mp e (q▸bf hp)
  exact ah this T
 | some w=>
  replace h:=e▸h
  refine h _ _ ?_
  have U_:=T.drop
  have hw:jA (S.watch.map λ p=>(p.1,bA (A (.wl p.1)))) l=(del S.watch l).map λ p=>(p.1,bA (A (.wl p.1))):=by
   unfold jA del;exact af i9 rfl
  refine ah hw ?_
  have hlv:live S (.wl l):=by rewrite [live];exact ah e rfl
  have h4:∀u,u≠ .watching->(gB A (S.uWatch (del S.watch l)) u=none\/gB A (S.uWatch (del S.watch l)) u=gB A S u):=λ u hu=>by
   cases u with
   | wl j=>
    by_cases hj:j=l
    ·left;exact ((ah (nc ..) (ah (if_pos hj) rfl)):(lk (del S.watch l) j).map _=none)
    ·right;exact ((ah (nc ..) (ah (if_neg hj) rfl)):(lk (del S.watch l) j).map _=(lk S.watch j).map _)
   | watching=>exact absurd rfl hu
   | _=>exact .inr rfl
  have Uu:=U_.put (S' :=(S.uWatch (del S.watch l))) .watching trivial rfl h4 {T.fit with v6:=T.fit.v6.del _}
  have hne:A (.wl l)≠A .watching:=T.inv.ne hlv trivial (by simp)
  refine ⟨Uu.self,Uu.inv,Uu.fit,λ p hp=>?_,bp.mpr ⟨λ hm=>?_,Uu.nd⟩⟩
  ·rcases aL.mp hp with rfl | hp
   ·refine ⟨λ u hu e' =>?_,af (AH.get_put_ne hne) (T.wl_at e)⟩
    have hu' :live S u:=T.lv h4 trivial u hu
    have:=T.inv.inj u _ hu' hlv e'
    clear e' hu';subst this
    rewrite [live] at hu
    replace hu:=(show lk ((S.uWatch (del S.watch l)):SS).watch l=none from ((af (nc ..) (af (if_pos rfl) rfl)):lk (del S.watch l) l=none))▸hu
    exact (jD hu).elim
   ·exact Uu.xt p hp
  ·exact aM (aJ.mp hm) λ p hp e' =>((U_.xt p hp).1 (.wl l) hlv e'.symm)
theorem Ba{Q:AH->Prop}(T:St me A S U ((a,.list xs)::E))(hx:xs=w.map vn)(hl:lk S.watch l=none)(h0:-1000<=l/\l<=1000)
  (h:∀A' U',(∀u,live S u->A' u=A u)->A' (.wl l)=a->St me A' (S.uWatch (ins S.watch l w)) U' E->Q U'):WI C F n (.ref (A .watching)) (vi l) (.ref a) m U Q:=by
 subst hx
 have e2:∀u,u≠ .wl l->sP A l a u=A u:=λ u hu=>by
  cases u with
  | wl i=>exact if_neg λ e=>hu (by exact ah e rfl)
  | _=>rfl
 have hk:=(gF S.watch l).mp hl
 have hne:∀p∈S.watch,¬p.1=l:=λ p hp e=>hk (e▸bf hp)
 refine oG (T.has .watching rfl) (by refine ah (ae ..) ?_;have:=T.fit.z6;exact ac this (aj _ _)) (h (sP A l a) _ (λ u hu=>e2 u λ q=>by subst q;rewrite [live] at hu;replace hu:=hl▸hu;exact (jD hu).elim) (if_pos rfl) ?_)
 refine ah (kG _ _ _ (ah bC hk)) ?_
 refine T.upd (.wl l) .watching (if_pos rfl) e2 (λ q hq=>?_) (by simp) (by simp) trivial ?_ (λ u hu hv=>?_) {T.fit with v6:=T.fit.v6.ins _ h0.1 h0.2}
 ·have:gB (sP A l a) (S.uWatch (ins S.watch l w)) (.wl l)=some (.list (w.map vn)):=((ah (eB ..) (ah (if_pos rfl) rfl)):(lk (ins S.watch l _) l).map _=_)
  replace hq:=this▸hq;exact (aO hq).symm
 ·refine (?_:some (aT.dict _)=_)
  refine ah (kK (λ p=>(p.1,bA (A (.wl p.1)))) (λ p=>(p.1,bA (sP A l a (.wl p.1)))) _ _ _ hl λ p hp=>((ah (if_neg (hne p hp)) rfl):(p.1,bA (if p.1=l then a else _))=_)) ?_
  exact ((ah (if_pos rfl) rfl):some (aT.dict (_++[(l,bA (if l=l then a else _))]))=_)
 ·cases u with
  | wl j=>
   right
   exact ((ah (eB ..) (ah (if_neg λ e=>hu (by exact ah e rfl)) rfl)):(lk (ins S.watch l _) j).map _=(lk S.watch j).map _)
  | watching=>exact absurd rfl hv
  | _=>exact .inr rfl
theorem tj{Q:Value->AH->Prop}(t:rG)(T:St me A S U E)(ht:gB A S t=some (.list xs))(hl:xs.length=k)(hz:k<=1000000)(h:Q (vn k) U):WB C F n (.builtin "len") [.ref (A t)] m U (qe Q):=C4 (T.rd _ ht (by intro _ _ h;cases h)) (ac (aC hl) (ac hz (aj _ _))) (ah hl h)
theorem EX{Q:Value->AH->Prop}(T:St me A S U E)(h:Q (vn S.row.length) U):WB C F n (.builtin "len") [.ref (A .row)] m U (qe Q):=tj .row T rfl (af (ae ..) rfl) (by have:=T.fit.z7;exact ac this (aj _ _)) h
theorem wT{Q:Value->AH->Prop}(T:St me A S U E)(h:Q (vn S.begins.length) U):WB C F n (.builtin "len") [.ref (A .begins)] m U (qe Q):=tj .begins T rfl (af (ae ..) rfl) (by have:=T.fit.z8;exact ac this (aj _ _)) h
theorem B5{Q:Value->AH->Prop}(T:St me A S U E)(h:Q (vn S.rows.length) U):WB C F n (.builtin "len") [.ref (A .rows)] m U (qe Q):=tj .rows T rfl (fV _ _) (by have:=T.fit.z9;exact ac this (aj _ _)) h
noncomputable def XR(o:Value)(P:Addr->Prop):Prop:=∃a,o=.ref a/\P a
theorem J_{Q:AH->Prop}(T:St me A S U E)(ha:gt d (.dict kvs) (.dict (cW kvs k v)) E E')(hz:kvs.length<=1000000)(h:∀U',St me A S U' E' ->Q U'):WI C F n (.ref d) (vi k) v m U Q:=
 oG (T.at_ ha.mem) (ac hz (aj _ _)) (h _ (T.turn ha))
end
end
section
section
variable{U U' :AH}{X:Sx}{A A' :Ad}{S S' :SS}{me:Addr}{E E' :List (Addr×aT)}{n:Nat}
noncomputable def j8(S:SS)(l:Int)(c:Option Nat):SS:=
 ((((S.uKnown (ins S.known l.natAbs (decide (l>0)))).uHeights (ins S.heights l.natAbs S.begins.length)).uCauses (ins S.causes l.natAbs c)).uRow (S.row++[l]))
noncomputable def oK(S:SS):SS:=match S.row.getLast? with
 | none=>S
 | some l=>(((S.uRow S.row.dropLast).uKnown (del S.known l.natAbs)).uLiked (ins S.liked l.natAbs ((lk S.known l.natAbs).getD false)))
noncomputable def gS:Nat->SS->SS
 | 0,S=>S
 | k+1,S=>oK (gS k S)
noncomputable def bT(S:SS)(h:Nat):SS:=match S.begins[h]? with
 | none=>S
 | some b=>(((gS (S.row.length-b) S).uBegins (S.begins.take h)).uSeen ((gS (S.row.length-b) S).row.length))
structure Tr(S:SS):Prop where
 nd:(S.row.map bB).Nodup
 kn:∀(v:Int) (b:Bool),lk S.known v=some b↔∃l∈S.row,(l.natAbs:Int)=v/\b=decide (l>0)
theorem BM(S:SS):(oK S).row=S.row.dropLast:=by
 unfold oK
 split at⊢
 ·rename_i h;rewrite [List.getLast?_eq_none_iff] at h;simp [h]
 ·rfl
theorem nL:∀(k:Nat) (S:SS),(gS k S).row=S.row.take (S.row.length-k)
 | 0,S=>by simp [gS]
 | k+1,S=>((af (BM ..) (ah (nL k S) (af List.dropLast_eq_take (af ik (ah ce (ah (dz (l9 ..)) (ah (dz (l9 ..)) rfl))))))):(oK (gS k S)).row=_)
theorem wJ(S:SS):∃a b c,oK S=(((S.uRow a).uKnown b).uLiked c):=by
 unfold oK;split at⊢
 ·exact yC _ _ _ rfl
 ·exact yC _ _ _ rfl
theorem gJ:∀(k:Nat) (S:SS),∃a b c,gS k S=(((S.uRow a).uKnown b).uLiked c)
 | 0,S=>⟨_,_,_,rfl⟩
 | k+1,S=>lh (gJ k S) λ a b c e=>(((ah e (lh (wJ (((S.uRow a).uKnown b).uLiked c)) λ a' b' c' e' =>(yC a' b' c' e'))):∃a b c,oK (gS k S)=_))
theorem EG(T:Tr S):Tr (oK S):=by
 cases h:S.row.getLast? with
 | none=>unfold oK;rewrite [h];exact T
 | some l=>
  have hr:S.row=S.row.dropLast++[l]:=by
   refine aS (List.getLast?_eq_some_iff.mp h) λ hne e=>?_
   rewrite [e];simp
  have nd:=T.nd
  replace nd:=aD▸hr▸nd;rewrite [c8] at nd
  refine cu nd λ n1 V n3=>?_;clear nd
  unfold oK
  refine ah h (⟨n1,λ v b=>(((ah (nc ..) ?_):lk (del S.known l.natAbs) v=some b↔∃x∈S.row.dropLast,_))⟩)
  constructor
  ·intro e
   split at e
   ·exact (bw e).elim
   ·rename_i hv
    refine c9 ((T.kn v b).mp e) λ x hx e1 e2=>?_
    replace hx:=hr▸hx
    rcases aw.mp hx with hx | hx
    ·exact fW x hx e1 e2
    ·replace e1:=al.mp hx▸e1;exact absurd e1.symm hv
  ·intro QI;refine c9 QI λ x hx e1 e2=>?_;clear QI
   have hne:¬v=l.natAbs:=λ e=>by
    have:=n3 x.natAbs (bf hx) l.natAbs (by simp)
    replace e:=dE e1▸e
    exact this (by exact_mod_cast e)
   exact af (if_neg hne) ((T.kn v b).mpr ⟨x,ah hr (ak _ hx),e1,e2⟩)
theorem sZ:∀(k:Nat) {S:SS},Tr S->Tr (gS k S)
 | 0,_,T=>T
 | k+1,_,T=>EG (sZ k T)
theorem EH(h:S.row=r++[l])(hb:lk S.known l.natAbs=some b):oK S=(((S.uRow r).uKnown (del S.known l.natAbs)).uLiked (ins S.liked l.natAbs b)):=by
 unfold oK
 refine ah h (ah List.getLast?_concat ?_)
 simp [hb]
theorem Tr.at_(T:Tr S)(h:l∈S.row):lk S.known l.natAbs=some (decide (l>0)):=(T.kn _ _).mpr ⟨l,h,rfl,rfl⟩
theorem jp(h:S.begins[k]? =none):bT S k=S:=by unfold bT;exact ah h rfl
noncomputable def mn(S:SS):SS:=((S.uRefuted true).uLog (S.log++[[]]))
noncomputable def fz(S:SS)(l:Int)(k:Nat):SS:=(S.uWatch (ins S.watch l ((lk S.watch l).getD []++[k])))
noncomputable def gl(S:SS)(c:List Int):SS:=(c.take 2).foldl (λ S l=>fz S l (S.rows.length-1)) (S.uRows (S.rows++[c]))
noncomputable def Wz(S:SS)(k:Nat):Prop:=∀l,((lk S.watch l).getD []).length<=k
theorem Wz.add(h:Wz S k)(l:Int)(j:Nat):Wz (fz S l j) (k+1):=λ x=>by
 refine ((ah (eB ..) (eH (λ V=>?_) λ V=>?_)):((lk (ins S.watch l _) x).getD []).length<=_)
 ·have:=h l;simp;exact this
 ·have:=h x;exact ac this (aB _ _)
end
end
section
section
variable{U U' :AH}{X:Sx}{A A' :Ad}{S S' :SS}{me:Addr}{E E' :List (Addr×aT)}{n:Nat}
noncomputable def cJ(r:List Int)(lost:Int):List Int:=if r.getD 0 0=lost then (r.set 0 (r.getD 1 0)).set 1 lost else r
noncomputable def k_(S:SS)(r:List Int):Nat->Nat->Option Nat
 | _,0=>none
 | k,j+1=>if says S (r.getD k 0)≠some false then some k else k_ S r (k+1) j
theorem yn(S:SS)(r:List Int)(k j:Nat):k_ S r k (j+1)=if says S (r.getD k 0)≠some false then some k else k_ S r (k+1) j:=rfl
noncomputable def dB(S:SS)(i:Nat)(lost:Int):SS×Bool:=
 let r:=cJ (S.rows.getD i []) lost
 let S₁:=(S.uRows (S.rows.set i r))
 if says S (r.getD 0 0)=some true then (S₁,false)
 else match k_ S r 2 (r.length-2) with
  | none=>(S₁,false)
  | some k=>(fz (S.uRows (S.rows.set i ((r.set 1 (r.getD k 0)).set k lost))) (r.getD k 0) i,true)
theorem nh(r:List Int)(l:Int):(cJ r l).length=r.length:=by unfold cJ;refine eH (λ V=>?_) λ V=>?_<;>simp
theorem BA{α:Type}(xs:List α)(i:Nat)(x:α)(h:xs[i]? =some x):xs.set i x=xs:=by
 obtain ⟨hl,e⟩:=ag.mp h
 exact dI e (List.set_getElem_self hl)
theorem jj{α:Type}{xs:List α}{x d:α}(h:xs[i]? =some x):xs.getD i d=x:=by rewrite [OQ,h];rfl
theorem ji(xs:List Int)(i:Nat)(h:i<xs.length):xs[i]? =some (xs.getD i 0):=by rewrite [OQ,aA h];rfl
noncomputable def uQ(S:SS)(l:Int):SS:=((S.uSeen (S.seen+1)).uWatch (ins (del S.watch (-l)) (-l) []))
noncomputable def qJ(S:SS)(lost:Int)(rest:List Nat):SS:=(S.uWatch (ins S.watch lost ((lk S.watch lost).getD []++rest)))
theorem tc(h:(dB S i lost).2=false):(dB S i lost).1=(S.uRows (S.rows.set i (cJ (S.rows.getD i []) lost))):=by
 unfold dB at h⊢
 dsimp only at h⊢
 split at h
 ·rename_i hs;exact ah (if_pos hs) rfl
 ·rename_i hs
  refine ah (if_neg hs) ?_
  split at h
  ·rfl
  ·exact (ze h).elim
theorem uW(S:SS)(i:Nat)(lost:Int):(dB S i lost).1.seen=S.seen:=by
 unfold dB
 dsimp only
 refine eH (λ V=>?_) λ V=>?_
 ·rfl
 ·split at⊢<;>rfl
theorem zB(S:SS)(i:Nat)(lost l:Int)(h:(lk S.watch l).isSome):(lk (dB S i lost).1.watch l).isSome:=by
 unfold dB
 dsimp only
 refine eH (λ V=>?_) λ V=>?_
 ·exact h
 ·split at⊢
  ·exact h
  ·refine ((ah (eB ..) (eH (λ V=>?_) λ V=>?_)):(lk (ins S.watch _ _) l).isSome)
   ·rfl
   ·exact h
structure q8(J:SS->Prop)(M:SS->Int->List Nat->Nat->Prop)(P:SS->Nat->Prop):Prop where
 enter:∀S l,J S->mM S->S.row[S.seen]? =some l->((lk S.watch (-l)).getD []).length<=40000/\M (uQ S l) (-l) ((lk S.watch (-l)).getD []) 0
 turn:∀S lost ns k i,M S lost ns k->mM S->ns[k]? =some i->∃r,S.rows[i]? =some r/\2<=r.length/\r.length<=100000/\(∀l∈r,-1000<=l/\l<=1000)/\Wz S 40000/\ns.length<=40000/\S.row.length<90000/\-1000<=lost/\lost<=1000/\Wz (dB S i lost).1 40001/\
  ((dB S i lost).2=true->M (dB S i lost).1 lost ns (k+1))/\
  ((dB S i lost).2=false->(says S ((cJ r lost).getD 0 0)=some false->P (qJ (fz (dB S i lost).1 lost i) lost (ns.drop (k+1))) i)/\
   (says S ((cJ r lost).getD 0 0)=some true->M (fz (dB S i lost).1 lost i) lost ns (k+1))/\
   (says S ((cJ r lost).getD 0 0)=none->M (j8 (fz (dB S i lost).1 lost i) ((cJ r lost).getD 0 0) (some i)) lost ns (k+1)))
 leave:∀S lost ns,M S lost ns ns.length->J S
end
end
section
section
variable{C:Cx}{F:c_}{n:Nat}{m:Str->Option Value}{U U' :AH}{Z Y Y' :List (Addr×Obj)}{s s' :aE}
noncomputable def WK(C:Cx)(F:c_)(n:Nat)(RE:List Eb)(m:Str->Option Value)(U:AH)(Q:List Value->AH->Prop):Prop:=
 F.Ok C n->∀Z s pos W,cj C F Z s m U->(∀vs s U,cj C F Z s m U->Q (vs.map er) U->W vs s)->br (bL C.prog C.w) F.A (evalAll ((o5 pos (jF RE F.env)).map (·.2))) W (λ V V=>False) s
theorem Dw{Q:List Value->AH->Prop}(h:Q [] U):WK C F n [] m U Q:=λ O Z s pos W R K=>kwAll_nil (K _ _ _ R h)
theorem tU{Q:List Value->AH->Prop}(h:WE C F n value m U λ v U1=>WK C F n rest m U1 λ vs QB=>Q (v::vs) QB):WK C F n (⟨some name,value,kp⟩::rest) m U Q:=λ O Z s pos W R K=>
 kwAll_cons (h O Z s _ R λ v s₁ U1 R₁ QC=>QC O Z s₁ pos _ R₁ λ vs s₂ QB R₂ QP=>(K _ _ _ R₂ QP))
noncomputable def Hi(C:Cx)(F:c_)(n:Nat)(f:Value)(args:List Value)(names:List Str)(ks:List Value)(m:Str->Option Value)(U:AH)(Q:Value->AH->Prop):Prop:=
 ∀QE Vk,QE.map er=args->Vk.map er=ks->WO C F n (call f QE (names.zip Vk)) m U Q
theorem qZ{Q:Value->AH->Prop}(hk:F.env.kindOf x=some .globalImplicit)(hx:oq C.K cX x=some none)(hb:fu x=some (.builtin b))(hn:x≠ "__name__")(hd:(x==("__debug__":Str))=false)
  (he:∀env pos,eI pos (cO (e::rest) env)=(false,fF e env)::eI pos (cO rest env)) (hp:noStar (e::rest)) (Uc:∀env pos,(o5 pos (jF RE env)).filterMap (·.1)=names) (hall:∀env pos,(o5 pos (jF RE env)).all (·.1.isSome)=true)
  (hany:∀env pos,(o5 pos (jF RE env)).any (·.1.isNone)=false)
  (h:WL C F n (e::rest) m U λ vs U1=>WK C F n RE m U1 λ ks QB=>Hi C F n (.builtin b) vs names ks m QB (qe Q)):WE C F n (.Call (.Name x p) (e::rest) RE pos) m U Q:=λ O Z s W R K=>by
 refine ((ax (dD O.ek hk (iz (ah O.eg (O.G.T.g.keeps R.keep)) (rc O.G.X O.G.T.g hx) (ah O.eb (O.G.T.b.keeps R.keep)) ((O.G.T.builtins x hn).trans hb) ?_) hd)):br _ _ (do kZ pos (<-fF (.Name x p) F.env) [] (eI pos (cO (e::rest) F.env)) (o5 pos (jF RE F.env))) _ _ _)
 exact callWith_kw (ah (Uc ..) (h O Z s pos _ R λ vs s₁ U1 R₁ QC=>QC O Z s₁ pos _ R₁ λ ks s₂ QB R₂ QP=>QP vs ks rfl rfl O Z s₂ _ R₂ K)) (he _ _) (hp _ _) (hall _ _) (hany _ _)
theorem vM{Q:Value->AH->Prop}(hk:F.env.kindOf x=some .globalImplicit)(hx:oq C.K cX x=some none)(hb:fu x=some (.builtin b))(hn:x≠ "__name__")(hd:(x==("__debug__":Str))=false)
  (he:∀env pos,eI pos (cO (e::rest) env)=(false,fF e env)::eI pos (cO rest env)) (hp:noStar (e::rest))
  (h:WL C F n (e::rest) m U λ vs U1=>WE C F n v1 m U1 λ k1 QB=>Hi C F n (.builtin b) vs [n1] [k1] m QB (qe Q)):WE C F n (.Call (.Name x p) (e::rest) [⟨some n1,v1,p1⟩] pos) m U Q:=
 qZ hk hx hb hn hd he hp (λ V V=>rfl) (λ V V=>rfl) (λ V V=>rfl) λ O Z s pos W R K=>h O Z s pos _ R λ vs s' U' R' q=>(K _ _ _ R' (tU (q.mono λ v U h=>Dw h)))
theorem vL{Q:Value->AH->Prop}(hk:F.env.kindOf x=some .globalImplicit)(hx:oq C.K cX x=some none)(hb:fu x=some (.builtin b))(hn:x≠ "__name__")(hd:(x==("__debug__":Str))=false)
  (he:∀env pos,eI pos (cO (e::rest) env)=(false,fF e env)::eI pos (cO rest env)) (hp:noStar (e::rest))
  (h:WL C F n (e::rest) m U λ vs U1=>WE C F n v1 m U1 λ k1 QB=>WE C F n v2 m QB λ k2 QG=>Hi C F n (.builtin b) vs [n1,n2] [k1,k2] m QG (qe Q)):WE C F n (.Call (.Name x p) (e::rest) [⟨some n1,v1,p1⟩,⟨some n2,v2,p2⟩] pos) m U Q:=
 qZ hk hx hb hn hd he hp (λ V V=>rfl) (λ V V=>rfl) (λ V V=>rfl) λ O Z s pos W R K=>h O Z s pos _ R λ vs s' U' R' q=>(K _ _ _ R' (tU (q.mono λ v U h=>tU (h.mono λ v U h=>Dw h))))
section
variable{prog:Program}{w:nD}{A:dY}{E:Value->aE->Prop}{s:aE}{h₀:fT}{L:Addr}{m:Str->Option Value}{news:List (Addr×Obj)}{b:Bool}{Q:Value->aE->Prop}{Vy:Value}
theorem tm{P:List Value->Prop}(F:Fr h₀ L s.heap m)(N:ot h₀ L s.heap news)
  (Ww:∀(R:List Value->aE->Prop),(∀h' tk vs,(∀b o,s.heap.get? b=some o->h'.get? b=some o)->P vs->R vs {s with heap:=h',toks:=tk})->br (bL prog w) A.in1 (collect Vy) R E s)
  (hP:∀vs,P vs->kz.length=vs.length/\vs.length<64)
  (Xb:JA "sorted" ⟨[Vy],kw⟩) (Yq:∀x,JA "list.sort" ⟨[.ref x],kw⟩) (ht:∀x,fM.«list.sort» ⟨[.ref x],kw⟩=ksk_tree x f b)
  (turn:∀vs,P vs->∀(i:Nat) (v:Value) (k:Int),vs[i]? =some v->kz[i]? =some k->∀(h:fT) (tk Ss :Nat) (own:List (Addr×Obj)),Fr h₀ L h m->ot h₀ L h (news++own)->
   br (bL prog w) A.in1.in1 (call f [v]) (KskEnd h₀ L m (news++own) k {s with heap:=h,toks:=tk}) (λ V V=>False) {s with heap:=h,toks:=tk})
  (h:∀vs,P vs->∀D h' tk out c,Fr h₀ L h' m->ot h₀ L h' ((D,Jr "list" out c)::news)->(∀q∈news,q.1<D)->OS b kz vs out.toList->Q (.ref D) {s with heap:=h',toks:=tk}):
  br (bL prog w) A (call (.builtin "sorted") [Vy] kw) Q E s:=by
 refine call_function_entry_kw kind_sorted plain_sorted entry_sorted Xb ?_
 unfold fM.«sorted»
 refine ax (m:=checkCount "sorted" 1 1 _) (aZ (ax (Ww _ λ h1 WJ vs hk hp=>(aU (hP vs hp) λ hlen h64=>(ax (AB ?_ (ah cB (aP (aq h64 (aj _ _))))))))))
 have hoL:(h1.push (Jr "list" vs.toArray 0)).get? h1.objs.size=some (Jr "list" vs.toArray 0):=cf _ rfl
 have keep:∀b o,s.heap.get? b=some o->(h1.push (Jr "list" vs.toArray 0)).get? b=some o:=λ b o q=>aW _ (hk b o q)
 have hlt:∀b o,s.heap.get? b=some o->b<h1.objs.size:=λ b o q=>bz (hk b o q)
 refine vg F.ns λ oL V V TH V V=>?_
 have hL:L<h1.objs.size:=hlt _ _ TH
 refine ax (bR (wpAny_call_entry_kw slot_list_sort ⟨_,hoL,rfl⟩ entry_list_sort ?body (Yq _)))
 have Tp :=ht h1.objs.size
 refine ((ah Tp ?_):br (bL prog w) A.in1.in1 (fM.«list.sort» ⟨[.ref h1.objs.size],kw⟩) _ _ _)
 exact ksk_sort (s:={s with heap:=h1.push (Jr "list" vs.toArray 0),toks:=WJ})
  (F.kept keep) (N.grown keep) hoL (dq hL) (m8 (ac F.above (aP hL)))
  (λ p hp=>bu (hlt _ _ (N p hp).1)) hlen h64 (λ i v k hv X3 hh tk own F' N' =>turn vs hp i v k hv X3 hh tk WJ own F' N') λ h' tk out c F' N' k' =>⟨_,rfl,(aZ ⟨_,rfl,h vs hp _ h' tk out c F' N' (λ q hq=>hlt _ _ (N q hq).1) k'⟩)⟩
end
noncomputable abbrev Fb(F:c_)(A:dY):c_:={F with A:=A,env:={F.env with locals:=F.L,scope:={F.env.scope with names:=[]}},oL:=none,cells:=[],exc:=λ V V=>False}
theorem Mi(O:F.Ok C (k+1))(h1:A.frames=F.A.frames)(h2:A.handled=none)(h3:A.depth<=F.A.depth+3)(h4:A.units<=F.A.units+10):(Fb F A).Ok C k:=
 ⟨O.B,h1.trans O.hA,O.hf,O.hk,O.G,O.ek,O.eg,O.eb,λ V=>rfl,(λ h=>nomatch h),h2,.nil,(λ V h=>nomatch h),(λ V V h=>nomatch h),(λ x h=>by rcases h with h | h<;>exact (bw h).elim),by have:=O.depth;exact ((au (b8 h3 _) (ya (dL _ _ _) this)):A.depth+3*k<_),by have:=O.units;exact ((au (b8 h4 _) (ya (dL _ _ _) this)):A.units+10*k<_),qz⟩
theorem Cc{mL:Str->Option Value}(O:F.Ok C (k+1))(h1:A.frames=F.A.frames)(h2:A.handled=none)(h3:A.depth<=F.A.depth+3)(h4:A.units<=F.A.units+10)
  (FR:Fr F.h₀ F.L h mL) (N:ot F.h₀ F.L h need) (core:l5 C s) (Tn:AH) (VJ:∀a o,Tn.get a=some o->∃ob v,o=.ro ob v/\(a,ob)∈need/\At C h a v/\3<a) (hq:(q,jv (.ref f) (.ref self))∈need)
  (hw:WC C k f [.ref self,er v] Tn λ r U' =>r=vi key/\U' =Tn):
  br (bL C.prog C.w) A (call (.ref q) [v]) (KskEnd F.h₀ F.L mL need key {s with heap:=h,toks:=tk}) (λ V V=>False) {s with heap:=h,toks:=tk}:=by
 let Z2:=need.filter λ p=>(Tn.get p.1).isNone
 have R₂:cj C (Fb F A) Z2 {s with heap:=h,toks:=tk} (λ V=>none) Tn:=by
  refine ⟨core.upd,⟨mL,FR⟩,(λ V h=>nomatch h),⟨mL,FR.ns⟩,(λ V V h=>nomatch h),(λ V h=>nomatch h),(λ V h=>nomatch h),λ p hp=>?_,λ a o e=>?_,λ a o e=>?_⟩
  ·exact aU (bE.mp hp) λ Q4 Ur=>(cu (N p Q4) λ a b c=>(gN a b c (by simpa using Ur)))
  ·refine jk (VJ a o e) λ ob v QI hm ha V=>?_;subst QI
   exact cu (N _ hm) λ x y z=>(du ⟨⟨_,x⟩,y,z⟩ x ha)
  ·refine jk (VJ a o e) λ ob v QL hm ha h3=>?_;subst QL;exact h3
 refine kR (method_call (N _ hq).1 (f_ (hw _ Z2 _ _ [.ref self,v] (Mi O h1 h2 h3 h4) R₂ rfl) λ r s' Q4=>?_))
 (try clear hw);obtain ⟨v',U',hr,R',⟨e,V5⟩,FE⟩:=Q4
 (try clear hw);subst hr V5
 refine aS (mv e) λ t' QT=>?_;subst QT
 refine Cz s'.heap s'.toks t' ?_ rfl (FE mL FR) (λ p hp=>?_)
 ·obtain ⟨g1,g2,g3⟩:=core
  obtain ⟨e1,e2,e3⟩:=R'.core
  obtain ⟨a,b,c,d,e⟩:=s'
  (try clear R');obtain ⟨a',b',c',d',e'⟩:=s
  dsimp only at*
  clear R₂;subst e1 e2 e3 g1 g2 g3
  rfl
 ·cases hs:U'.get p.1 with
  | none=>
   refine fD (R'.zz p (bE.mpr ⟨hp,ah hs rfl⟩)) λ a b c V=>?_
   exact du a b c
  | some o=>
   refine jk (VJ _ o hs) λ ob v QW hm ha V=>?_;subst QW
   refine cu (N _ hm) λ x y z=>(cu (N _ hp) λ x' y' z' =>(cu (R'.sg _ _ hs) λ QY w V=>(cu QY λ V b c=>?_)));clear QY
   replace x' :=x▸x'
   exact dI (aO x') (du w b c)
noncomputable def BJ(U:AH)(h:fT)(as:List Addr):AH:=as.filterMap λ a=>match U.get a,h.get? a with
 | some v,some ob=>some (a,.ro ob v)
 | _,_=>none
set_option tactic.hygienic true in
theorem BI(as:List Addr)(e:(BJ U h as).get a=some o):∃ob v,o=.ro ob v/\U.get a=some v/\h.get? a=some ob:=by
 induction as with
 | nil=>exact (bw e).elim
 | cons b as ih=>
  unfold BJ at e
  replace e:=jy▸e
  split at e
  ·exact ih e
  ·rename_i p hp
   split at hp
   ·rename_i v ob h1 h2
    have Rb:=sI hp;clear hp;subst Rb
    unfold AH.get at e
    rewrite [bq] at e
    split at e
    ·rename_i Yp
     (try clear ih);have Q8:=sI e;clear e;subst Q8
     exact ah (cG Yp) (lc ob v rfl h1 h2)
    ·exact ih e
   ·exact (bw hp).elim
set_option tactic.hygienic true in
theorem BH(as:List Addr)(hm:a∈as)(h1:U.get a=some v)(h2:h.get? a=some ob):(BJ U h as).get a=some (.ro ob v):=by
 induction as with
 | nil=>cases hm
 | cons b as ih=>
  unfold BJ
  refine ah jy ?_
  by_cases e:a=b
  ·(try clear hm);subst e
   simp only [h1,h2]
   unfold AH.get
   exact af bq (ah (beq_self_eq_true ..) rfl)
  ·have Ry :a∈as:=(aL.mp hm).resolve_left e
   split at⊢
   ·exact ih Ry
   ·rename_i p hp
    split at hp
    ·have Rc:=sI hp;clear hp;subst Rc
     unfold AH.get
     exact af bq (ah (beq_false_of_ne e) (ih Ry))
    ·exact (bw hp).elim
noncomputable def oW(b:Bool)(kz:List Int)(xs ys:List Value):Prop:=OS b kz xs ys
theorem oW.er(h:OS b kz vs out):OS b kz (vs.map Mine.er) (out.map Mine.er):=by
 refine c9 h λ ps hp e ho=>?_;clear h
 refine fW (ps.map λ p=>(p.1,Mine.er p.2)) ?_ ?_ ?_
 ·have:=hp.map λ p:Int×Value=>(p.1,Mine.er p.2)
  replace this:=(show (kz.zip vs).map (λ p:Int×Value=>(p.1,Mine.er p.2))=kz.zip (vs.map Mine.er) from ah gW rfl)▸this
  exact this
 ·exact ah e (af bC (ah bC rfl))
 ·exact io cY ho
theorem Ko(A:dY):A.in1.in1.frames=A.frames/\(A.handled=none->A.in1.in1.handled=none)/\A.in1.in1.depth<=A.depth+3/\A.in1.in1.units<=A.units+10:=⟨rfl,λ h=>h,aB _ _,by refine (?_:A.units+_+_<=_);exact ac (b_ (bn _)) (aV (aj _ _) _)⟩
theorem qP{as:List Addr}{Q:Value->AH->Prop}(hl:U.rd l=some (.list xs))(hq:U.get q=some (.raw (jv (.ref f) (.ref self))))(hlen:kz.length=xs.length)(h64:xs.length<64)
  (has:∀a∈as,∃v,U.get a=some v)
  (hw:∀Tn:AH,(∀a∈as,Tn.rd a=U.get a)->∀(i:Nat) (v:Value) (key:Int),xs[i]? =some v->kz[i]? =some key->WC C k f [.ref self,v] Tn λ r U' =>r=vi key/\U' =Tn)
  (h:∀D ys,oW b kz xs ys->U.get D=none->Q (.ref D) (U.put D (.list ys))):
  Hi C F (k+1) (.builtin "sorted") [.ref l] [aF "key",aF "reverse"] [.ref q,.bool b] m U (qe Q):=λ QE Vk f1 f2 O Z s W R K=>by
 refine aM (qV f1) λ a' Rp e1=>?_;subst Rp
 refine jl (mY f2) λ q' b' Q7 e2 e3=>?_;subst Q7
 clear f1 f2
 refine jz e1 (jz e2 (Ei e3 (ck (R.at hl) λ vs c hv hx=>?_)))
 have hL:s.heap.IsList l vs.toArray:=⟨_,hv,rfl,_,rfl⟩
 have hlen' :=dw hx
 refine c9 (R.viaNews O) λ mL FR N back=>?_
 have hqm:(q,jv (.ref f) (.ref self))∈um F Z U s.heap:=ai _ (bH.mpr ⟨AH.dom' hq,(R.sg _ _ hq).2⟩)
 refine ksk_sorted (kz:=kz) FR N hL (bx (ac (aC hlen) (xb hlen' (az _))) (ac (aC hlen') (xb hlen (az _)))) (au (aC hlen') h64) (ksk_s2 _ _ _) (λ x=>ksk_l2 _ _ _) (λ x=>ksk_t2 _ _ _) (λ i v key Up hki hh tk own F' N' =>?_) λ D h' tk out c F' N' l1 ko=>?_
 ·refine fD (Ko F.A) λ g1 g2 g3 g4=>(Cc O g1 (g2 O.handled) g3 g4 F' N' R.core (BJ U s.heap as) (λ a o e=>?_) (ak _ ?_) (hw _ (λ a ha=>?_) i (er v) key (dI hx (af ay (ah Up rfl))) hki))
  ·refine jl (BI _ e) λ ob v Rf x1 x2=>?_;subst Rf
   have hm:(a,ob)∈um F Z U s.heap:=ai _ (bH.mpr ⟨AH.dom' x1,x2⟩)
   refine pn ob v rfl (ak _ hm) ((R.sg _ _ x1).2.keep λ o ho=>?_) (R.sm _ _ x1)
   replace ho:=x2▸ho;clear e x2;have Rd:=sI ho;clear ho;subst Rd
   exact (N' _ (ak _ hm)).1
  ·exact ai _ (bH.mpr ⟨AH.dom' hq,(R.sg _ _ hq).2⟩)
  ·refine aS (has a ha) λ v hv=>(aU (R.sg _ _ hv) λ Rn V=>(aU Rn λ S9 V=>?_));clear Rn;obtain ⟨ob,x⟩:=S9
   refine ah hv ?_
   unfold AH.rd
   exact ah (BH _ ha hv x) rfl
 ·have hA:At C h' D (.list (out.toList.map er)):=⟨out.toList,c,by have:=(N' _ (.head _)).1;exact ah iP this,rfl⟩
  exact aU (back {s with heap:=h',toks:=tk} D _ _ ⟨R.core.gens,R.core.os,R.core.dr⟩ F' N' l1 (bD (R.sm _ _ hq) (l1 _ hqm)) hA) λ R' hn=>(K _ _ _ R' (h _ _ (hx▸oW.er ko) hn))
theorem BP{x Cl dx f:Addr}{Q:Value->AH->Prop}(hx:U.get x=some (.inst Cl dx))(hd:U.get dx=some (.ns fs))(hl:nsLook attr fs=none)
  (hC:t9 C.K Cl) (hM:vS C.K Cl attr f) (X_:specialIn C.K (.ref f) "__get__"=some (some (.builtin "function.__get__"))) (ht:takesIn C.K (.ref f)=some false) (hc:copiedNames.contains attr=false)
  (h:∀D,U.get D=none->Q (.ref D) (U.put D (.raw (jv (.ref f) (.ref x))))):WV C F n (λ o=>rO o attr true) (.ref x) m U (qe Q):=λ a ha O Z s W R K=>by
 refine jz ha (ck ((R.sg _ _ hd).2) λ es k he hes=>?_)
 have hg:=hes.getL attr
 replace hg:=hl▸hg
 refine c9 (R.viaNews O) λ mL FR N back=>(aU ((R.sg _ _ hx).1) λ Rm V=>(aS Rm λ ob XG=>?_));clear Rm
 have hxm:(x,ob)∈um F Z U s.heap:=ai _ (bH.mpr ⟨AH.dom' hx,XG⟩)
 exact kbm_bound FR O.G.X N (kJ (R.sg _ _ hx).2 he) (hC.pg _) hC.hd hM.at_ hM.fn X_ ht hc hg λ q h' F' N' l1=>(aU (back {s with heap:=h',toks:=s.toks+1} q _ (.raw (jv (.ref f) (.ref x))) ⟨R.core.gens,R.core.os,R.core.dr⟩ F' N' l1 (bD (R.sm _ _ hx) (l1 _ hxm)) (N' _ (.head _)).1) λ R' hn=>(K _ _ _ R' (h _ hn)))
theorem rE{Q:Value->AH->Prop}(hd:U.get d=some (.dict kvs))(h64:kvs.length<64)
  (h:∀D ys,oW false (kvs.map λ p=>(p.1.natAbs:Int)) (kvs.map λ p=>vi p.1) ys->U.get D=none->Q (.ref D) (U.put D (.list ys))):
  Hi C F n (.builtin "sorted") [.ref d] [aF "key"] [.builtin "abs"] m U (qe Q):=λ QE Vk f1 f2 O Z s W R K=>by
 refine aM (qV f1) λ a' RA e1=>?_;subst RA
 refine aM (qV f2) λ q' RN e2=>?_;subst RN
 clear f1 f2
 refine jz e1 ?_
 have e3:q' =.builtin "abs":=by
  cases q' with
  | builtin=>exact e2
  | _=>exact (cI lu e2 rfl).elim
 (try clear e2);subst e3
 refine aM ((R.sg _ _ hd).2) λ QK hm hx=>?_
 have hlen:QK.length=kvs.length:=dI hx (ah (ae ..) rfl)
 have hkey:QK.map (·.1)=kvs.map (·.1):=dI hx (ah bC rfl)
 refine c9 (R.viaNews O) λ mL FR N back=>(aU ((R.sg _ _ hd).1) λ RF V=>(aS RF λ ob Yi=>?_));clear RF
 have hdm:(d,ob)∈um F Z U s.heap:=ai _ (bH.mpr ⟨AH.dom' hd,Yi⟩)
 refine pz hm λ o' es ep VM Uw=>?_;clear hm
 have hDA:s.heap.DictAt (eR C.prog C.w) d QK ep:=⟨o',es,VM,Uw⟩
 have hnum:∀vs:List Value,vs.map er=(kvs.map λ p=>vi p.1)->∀(i:Nat) (v:Value) (k:Int),vs[i]? =some v->(kvs.map λ p=>(p.1.natAbs:Int))[i]? =some k->∃j t,v=.int j t/\k=(j.natAbs:Int):=by
  intro vs hv i v k Up hki
  replace hki:=ay▸hki
  cases hp:kvs[i]? with
  | none=>replace hki:=hp▸hki;exact (bw hki).elim
  | some p=>
   replace hki:=hp▸hki
   have e:(vs.map er)[i]? =some (vi p.1):=ah hv (af ay (ah hp rfl))
   replace e:=Up▸ay▸e
   (try clear Up);refine aS (mv (aO e)) λ t RX=>?_;subst RX
   exact iI p.1 t rfl ((aO hki).symm)
 refine tm (kz:=kvs.map λ p=>(p.1.natAbs:Int)) (P:=λ vs=>vs.map er=kvs.map λ p=>vi p.1) FR N (λ K hR=>?_) (λ vs hv=>?_) (ksk_s1 _ _) (λ x=>ksk_l1 _ _) (λ x=>ksk_t4 _ _) (λ vs hv i v key Up hki hh tk Ss own F' N' =>?_) λ vs hv D h' tk out c F' N' l1 ko=>?_
 ·refine kdu_collect (kdl_dict (knd:=eR C.prog C.w) (ep:=ep) (kvs:=QK) (R.notSys hd)) O.handled hDA (ah cB (aP (aq (ya hlen h64) (ac (az _) (aj _ _))))) λ h' tk QD hk hacc=>hR h' tk _ hk ?_
  refine aU hacc λ hsz hit=>?_;clear hacc
  refine Ea λ i=>(af ay (ah ay (dI hx (ah ay ?_))))
  by_cases hi:i<QD.size
  ·have h2:QD.toList[i]? =some QD[i]:=af mh (gy hi)
   exact ck (hit i QD[i] (gy hi)) λ k x q1 q2=>(ah h2 (ah q1 (aS (Value.isInt_shape q2) λ t e=>(ah e rfl))))
  ·have h2:QD.toList[i]? =none:=af mh (Array.getElem?_eq_none (dC hi))
   have h3:QK[i]? =none:=bt (ac (xb hsz (az _)) (dC hi))
   exact ah h2 (ah h3 rfl)
 ·have:=dw hv
  rw [ae] at this⊢
  exact bk (dE this) (ya this h64)
 ·refine ck (hnum vs hv i v key Up hki) λ j t RW RV=>?_;subst RW;subst RV
  refine Qd λ u Ze=>?_
  have e:(if j<0 then-j else j)=(j.natAbs:Int):=by refine eH (λ V=>?_) λ V=>?_<;>lia
  exact ah e (KskEnd.intro (s₁:={s with heap:=hh,toks:=tk}) F' N' (λ p hp=>hp))
 ·have hA:At C h' D (.list (out.toList.map er)):=⟨out.toList,c,by have:=(N' _ (.head _)).1;exact ah iP this,rfl⟩
  exact aU (back {s with heap:=h',toks:=tk} D _ _ ⟨R.core.gens,R.core.os,R.core.dr⟩ F' N' l1 (bD (R.sm _ _ hd) (l1 _ hdm)) hA) λ R' hn=>(K _ _ _ R' (h _ _ (hv▸oW.er ko) hn))
end
end
section
section
variable{C:Cx}{F:c_}{n:Nat}{m:Str->Option Value}{U U' :AH}{X:Sx}{A A' :Ad}{S S' :SS}{me:Addr}{E E' :List (Addr×aT)}
theorem qC{Q:Value->AH->Prop}(T:St me A S U E)(hd:(d,.dict kvs)∈E)(h64:kvs.length<64)
  (h:∀D ys U',oW false (kvs.map λ p=>(p.1.natAbs:Int)) (kvs.map λ p=>vi p.1) ys->ys.length<=1000->St me A S U' ((D,.list ys)::E)->Q (.ref D) U'):
  Hi C F n (.builtin "sorted") [.ref d] [aF "key"] [er (.builtin "abs")] m U (qe Q):=
 rE (T.at_ hd) h64 λ D ys hk hD=>h D ys _ hk (by refine c9 hk λ ps hp QI V=>?_;clear hk;subst QI;have:=hp.length_eq;simp at this⊢;exact aP (aq (ya this h64) (ac (az _) (aj _ _)))) (T.fresh hD)
end
section
variable{C:Cx}{F:c_}{n:Nat}{m:Str->Option Value}{U U' :AH}{X:Sx}{A A' :Ad}{S S' :SS}{me:Addr}{E E' :List (Addr×aT)}
noncomputable abbrev jZ(f:List Int):List (Int×Value):=f.map λ k=>(k,.bool true)
theorem yE(f:List Int)(k:Int):(ig (jZ f) k).isSome=decide (k∈f):=by
 unfold ig dn
 induction f with
 | nil=>rfl
 | cons x f ih=>
  simp only [bc,ma] at ih⊢
  by_cases h:x=k
  ·(try clear ih);subst h;simp
  ·have h' :¬k=x:=λ e=>h e.symm
   simp only [h,decide_false];refine af ih ?_;simp [h']
theorem oF(f:List Int)(k:Int):cW (jZ f) k (.bool true)=jZ (if k∈f then f else f++[k]):=by
 by_cases h:k∈f
 ·refine ah (if_pos h) ?_
  unfold cW
  have:(jZ f).any (λ p=>decide (p.1=k))=true:=io dj (cC (k,.bool true) (aJ.mpr ⟨k,h,rfl⟩) (by simp))
  refine af (if_pos this) (af bC (dF λ x hx=>(?_:(if x=k then _ else _)=_)))
  by_cases e:x=k<;>simp [e]
 ·refine ah (if_neg h) (af (kG _ _ _ (ah bC (ah (show ((λ x:Int×Value=>x.1)∘λ k:Int=>(k,gj true))=id from rfl) (ah (m6 ..) h)))) ?_)
  simp
noncomputable def t4(ls c:List Int):Prop:=c.Nodup/\(∀x,x∈c↔x∈ls)/\c.Pairwise λ x y=>x.natAbs<=y.natAbs
theorem oW.ints(h:oW false ((jZ f).map λ p=>(p.1.natAbs:Int)) ((jZ f).map λ p=>vi p.1) ys)(hn:f.Nodup):∃c:List Int,ys=c.map vi/\c.Perm f/\c.Pairwise λ x y=>x.natAbs<=y.natAbs:=by
 refine c9 h λ ps hp QL ho=>?_;clear h;subst QL
 have e:((jZ f).map λ p=>(p.1.natAbs:Int)).zip ((jZ f).map λ p=>vi p.1)=f.map λ k=>((k.natAbs:Int),vi k):=ah bC (ah bC (af JD rfl))
 replace hp:=e▸hp
 have hv:∀p∈ps,∃k,p=((k.natAbs:Int),vi k):=λ p hm=>by
  refine aM (aJ.mp (hp.mem_iff.mp hm)) λ k V QT=>?_;subst QT;exact ⟨k,rfl⟩
 let g:Int×Value->Int:=λ p=>match p.2 with | .int j _=>j | _=>0
 have hg:∀p∈ps,vi (g p)=p.2/\p.1=((g p).natAbs:Int):=λ p hm=>by refine aS (hv p hm) λ k QW=>?_;subst QW;exact ⟨rfl,rfl⟩
 refine fW (ps.map g) ?_ ?_ ?_
 ·exact ah bC (dF λ p hm=>(hg p hm).1.symm)
 ·have:=hp.map g
  replace this:=bC▸this
  replace this:=(m6 ..)▸(show (g∘λ k:Int=>((k.natAbs:Int),vi k))=id from rfl)▸this
  exact this
 ·refine io cY (ho.imp_of_mem λ{p q} h1 h2 h=>?_)
  simp only [bX,if_false] at h
  replace h:=(hg q h2).2▸(hg p h1).2▸h
  exact bY.mp h
end
end
section
section
variable{C:Cx}{F:c_}{n:Nat}{m:Str->Option Value}{U U' :AH}{X:Sx}{A A' :Ad}{S S' :SS}{me:Addr}{E E' :List (Addr×aT)}
end
section
variable{C:Cx}{F:c_}{n:Nat}{m:Str->Option Value}{U U' :AH}{X:Sx}{A A' :Ad}{S S' :SS}{me:Addr}{E E' :List (Addr×aT)}
theorem u5{α:Type}:∀(r:List (Int×α)) (l:Int) (v:α),(lk r l).isSome->(ins r l v).map (·.1)=r.map (·.1)
 | [],l,v,h=>(jD h).elim
 | (k,w)::r,l,v,h=>by
  unfold lk at h
  unfold ins
  by_cases e:k=l
  ·exact ah (if_pos e) rfl
  ·rw [if_neg e] at h⊢;exact af bc (ah bc (ah (u5 r l v h) rfl))
theorem se{α:Type}:∀{r:List (Int×α)} {i:Nat} {u:Int} {y:α},jE r->r[i]? =some (u,y)->lk r u=some y
 | [],i,u,y,_,h=>(bw h).elim
 | (k,w)::r,0,u,y,_,h=>by have QI:=sI h;clear h;cases QI;unfold lk;exact af (if_pos rfl) rfl
 | (k,w)::r,i+1,u,y,hn,h=>by
  have h' :r[i]? =some (u,y):=h
  unfold lk
  have hne:¬k=u:=λ e=>(bp.mp hn).1 (aJ.mpr ⟨(u,y),am h',e.symm⟩)
  exact af (if_neg hne) (se (bp.mp hn).2 h')
end
end
section
section
variable{C:Cx}{F:c_}{n:Nat}{m:Str->Option Value}{U U' :AH}{X:Sx}{A A' :Ad}{S S' :SS}{me:Addr}{E E' :List (Addr×aT)}
end
section
variable{C:Cx}{F:c_}{n:Nat}{m:Str->Option Value}{U U' :AH}{X:Sx}{A A' :Ad}{S S' :SS}{me:Addr}{E E' :List (Addr×aT)}
noncomputable def P2(S S' :SS):Prop:=∃hs g,hs.map (·.1)=S.heats.map (·.1)/\S' =((S.uHeats hs).uGain g)
noncomputable def dm(S:SS)(QJ:Int):List Int×List Int×Nat->Int->List Int×List Int×Nat:=λ t l=>
 if l≠QJ/\(l.natAbs:Int)∉t.1/\0<(lk S.heights l.natAbs).getD 0 then
  if (lk S.heights l.natAbs).getD 0=S.begins.length then (t.1++[(l.natAbs:Int)],t.2.1,t.2.2+1) else (t.1++[(l.natAbs:Int)],t.2.1++[l],t.2.2)
 else t
structure jt(S:SS)(L:List Int->List Int->Nat->Nat->Int->Nat->Prop)(P:List Int->Prop):Prop where
 turn:∀mk bh o sp QJ number,L mk bh o sp QJ number->∃r,S.rows[number]? =some r/\r.length<=10000/\mk.length<=10000/\bh.length<=10000/\sp<=S.row.length/\
  (∀l∈r,(lk S.heights l.natAbs).isSome/\(lk S.heats l.natAbs).isSome)/\
  ∃j l,j<sp/\S.row[j]? =some l/\(l.natAbs:Int)∈(r.foldl (dm S QJ) (mk,bh,o)).1/\(∀i l',j<i->i<sp->S.row[i]? =some l' ->(l'.natAbs:Int)∉(r.foldl (dm S QJ) (mk,bh,o)).1)/\
   0<(r.foldl (dm S QJ) (mk,bh,o)).2.2/\((r.foldl (dm S QJ) (mk,bh,o)).2.2=1->P ((-l)::(r.foldl (dm S QJ) (mk,bh,o)).2.1))/\
   ((r.foldl (dm S QJ) (mk,bh,o)).2.2≠1->∃c,lk S.causes l.natAbs=some (some c)/\L (r.foldl (dm S QJ) (mk,bh,o)).1 (r.foldl (dm S QJ) (mk,bh,o)).2.1 ((r.foldl (dm S QJ) (mk,bh,o)).2.2-1) j l c)
theorem sd(S:SS)(p:Int):∀(r:List Int) (t:List Int×List Int×Nat),(r.foldl (dm S p) t).1.length<=t.1.length+r.length/\(r.foldl (dm S p) t).2.1.length<=t.2.1.length+r.length
 | [],t=>⟨az _,az _⟩
 | l::r,t=>by
  refine aU (sd S p r (dm S p t l)) λ h1 h2=>(ah en (ah bF ?_))
  have:(dm S p t l).1.length<=t.1.length+1/\(dm S p t l).2.1.length<=t.2.1.length+1:=by
   unfold dm
   refine eH (λ V=>?_) λ V=>?_
   ·refine eH (λ V=>?_) λ V=>?_<;>simp
   ·simp
  exact Kt this h1 h2
end
end
section
section
variable{C:Cx}{F:c_}{n:Nat}{m:Str->Option Value}{U U' :AH}{X:Sx}{A A' :Ad}{S S' :SS}{me:Addr}{E E' :List (Addr×aT)}
theorem wK{x Cl dx:Addr}{Q:Value->AH->Prop}(hx:U.rd x=some (.inst Cl dx))(hd:U.rd dx=some (.ns fs))(hl:nsLook attr fs=some v)
  (hC:t9 C.K Cl) (hn:gu C.K (.ref Cl) attr=some none) (hv:oY v=true) (h:Q v U):WV C F n (λ o=>rO o attr true) (.ref x) m U (qe Q):=λ a ha O Z s W R K=>by
 refine ah (dJ ha) (ck (R.at hd) λ es k he hes=>?_)
 have hg:=hes.getL attr
 replace hg:=hl▸hg
 (try clear hl);refine aM hg λ cv e Sv =>?_;clear hg
 (try clear hl);subst e
 exact aS R.fr λ mL FR=>(P_ FR O.G.X (kJ (R.at hx) he) (hC.pg _) hC.hd hn rfl Sv (oP hv) (K _ _ _ (R.toks O) h))
theorem w4(p:fB):specialIn (KK p) (.ref 170) "__get__"=some (some (.builtin "function.__get__")):=by rfl
theorem zR(p:fB):takesIn (KK p) (.ref 170)=some false:=by rfl
theorem As{Q:Value->AH->Prop}(T:St me A S U E)(hm:m x=some (.ref me))(h:∀D U',St me A S U' ((D,.raw (jv (.ref 170) (.ref me)))::E)->Q (.ref D) U'):
  WE (CX X) F n (.Attribute (.Name x p) "height_of" pos) m U Q:=by
 refine tX (ql _ _ _ _ _) (d6 hm ?_)
 have hs:=T.self
 (try clear hm);subst hs
 exact BP (T.has .self rfl) (T.has .ns rfl) rfl (sX _) (th _) (w4 _) (zR _) (by decide) λ D hD=>h D _ (T.fresh hD)
theorem tY{Q:Value->AH->Prop}(h1:U.rd me=some (.inst 220 ns))(h2:U.rd ns=some (.ns fs))(h3:nsLook "heights" fs=some (.ref H))(h4:U.rd H=some (.dict kv))(h5:ig kv l.natAbs=some (vi k))(h:Q (vi k) U):
  WC (CX X) (n+1) 170 [.ref me,vi l] U Q:=by
 refine DH (names:=["self","literal"]) rfl rfl rfl (λ vs h=>by refine fg (j9 h) λ V V QI=>?_;subst QI;rfl) (by decide) (by decide) (by decide) rfl rfl rfl ?_
 intro b
 refine n_ (sH (Dx (λ V V=>⟨_,rfl⟩) (tX (ql _ _ _ _ _) (d6 rfl (wK h1 h2 h3 (sX _) (w_ _) rfl (nr rfl (Ik _) I2 (by decide) rfl (λ V V=>rfl) (e_ (λ V=>rfl) (d6 rfl (jW (xr (nU h4 h5 ?_)))))))))))
 intro v' e
 exact ((ah e h):Q (er v') U)
theorem oW.lits{g:Int->Int}(h:oW true (t.map g) (t.map vi) ys):∃c:List Int,ys=c.map vi/\c.Perm t/\c.Pairwise λ x y=>g y<=g x:=by
 refine c9 h λ ps hp QL ho=>?_;clear h;subst QL
 have e:(t.map g).zip (t.map vi)=t.map λ k=>(g k,vi k):=af JD rfl
 replace hp:=e▸hp
 let u:Int×Value->Int:=λ p=>match p.2 with | .int j _=>j | _=>0
 have hg:∀p∈ps,vi (u p)=p.2/\p.1=g (u p):=λ p hm=>by
  refine aM (aJ.mp (hp.mem_iff.mp hm)) λ k V QT=>?_;subst QT;exact ⟨rfl,rfl⟩
 refine fW (ps.map u) ?_ ?_ ?_
 ·exact ah bC (dF λ p hm=>(hg p hm).1.symm)
 ·have:=hp.map u
  replace this:=bC▸this
  replace this:=(m6 ..)▸(show (u∘λ k:Int=>(g k,vi k))=id from rfl)▸this
  exact this
 ·refine io cY (ho.imp_of_mem λ{p q} h1 h2 h=>?_)
  simp only [if_true] at h
  replace h:=(hg q h2).2▸(hg p h1).2▸h
  exact h
noncomputable def j_(S:SS)(l:Int):Nat:=(lk S.heights l.natAbs).getD 0
theorem pM{Q:Value->AH->Prop}(T:St me A S U E)(hl:(l,.list (t.map vi))∈E)(hq:(q,.raw (jv (.ref 170) (.ref me)))∈E)(h64:t.length<64)(hh:∀x∈t,(lk S.heights x.natAbs).isSome)
  (h:∀D (τ:List Int) U',τ.Perm t->τ.Pairwise (λ x y=>j_ S y<=j_ S x)->St me A S U' ((D,.list (τ.map vi))::E)->Q (.ref D) U'):
  Hi (CX X) F (n+1+1) (.builtin "sorted") [.ref l] [aF "key",aF "reverse"] [.ref q,.bool true] m U (qe Q):=by
 have hs:=T.self
 refine qP (as:=[me,A .ns,A .heights]) (kz:=t.map λ x=>(j_ S x:Int)) (d0 (T.at_ hl) (by intro _ _ h;cases h)) (T.at_ hq) (af (ae ..) (ah (ae ..) rfl)) (ah (ae ..) h64) (λ a ha=>?_) (λ Tn hr i v key hv hk=>?_) λ D ys hk hD=>?_
 ·simp only [aL,dU,or_false] at ha
  clear h hq;rcases ha with rfl | rfl | rfl
  ·exact ⟨_,hs▸T.has .self rfl⟩
  ·exact ⟨_,T.has .ns rfl⟩
  ·exact ⟨_,T.has .heights rfl⟩
 ·rw [ay] at hv hk
  cases ht:t[i]? with
  | none=>replace hv:=ht▸hv;exact (bw hv).elim
  | some x=>
   rw [ht] at hv hk
   obtain rfl:=aO hv
   obtain rfl:=aO hk
   refine aS (bW.mp (hh x (am ht))) λ y hy=>?_
   have e:j_ S x=y:=by unfold j_;exact ah hy rfl
   refine tY (ns:=A .ns) (H:=A .heights) (fs:=fields A S) (kv:=lr vn S.heights) ?_ ?_ rfl ?_ ?_ ⟨rfl,rfl⟩
   ·exact af (hr me (by simp)) (dI hs (T.has .self rfl))
   ·exact af (hr _ (by simp)) (T.has .ns rfl)
   ·exact af (hr _ (by simp)) (T.has .heights rfl)
   ·exact af (fX ..) (ah hy (((ah e rfl):some (vn y)=some (vi (j_ S x:Int)))))
 ·refine c9 (oW.lits (g:=λ x=>(j_ S x:Int)) hk) λ τ QW h1 h2=>?_;subst QW
  exact h D τ _ h1 (h2.imp λ h=>bY.mp h) (T.fresh hD)
end
section
variable{C:Cx}{F:c_}{n:Nat}{m:Str->Option Value}{U U' :AH}{X:Sx}{A A' :Ad}{S S' :SS}{me:Addr}{E E' :List (Addr×aT)}
noncomputable def jT(S:SS)(d:Int)(c τ:List Int):SS:=match τ with
 | []=>j8 (bT (S.uLog (S.log++[c])) 0) d none
 | x::_=>j8 (gl (bT (S.uLog (S.log++[c])) (j_ S x)) (d::τ)) d (some S.rows.length)
theorem qQ(S:SS)(k:Nat):(bT S k).rows=S.rows:=by
 unfold bT
 split at⊢
 ·rfl
 ·refine lh (gJ (S.row.length-‹Nat›) S) λ V V V e=>?_;exact ah e rfl
theorem pC(S:SS)(k:Nat):(bT S k).watch=S.watch:=by
 unfold bT
 split at⊢
 ·rfl
 ·refine lh (gJ (S.row.length-‹Nat›) S) λ V V V e=>?_;exact ah e rfl
theorem n6(S:SS)(k:Nat):(bT S k).row.length<=S.row.length:=by
 unfold bT
 split at⊢
 ·exact az _
 ·exact ((ah (nL ..) ((il _ _).length_le)):(gS _ S).row.length<=_)
theorem su:∀(c:List Int) (S:SS),(c.foldl (λ S l=>fz S l (S.rows.length-1)) S).row=S.row
 | [],_=>rfl
 | l::c,S=>by refine ah en ?_;rewrite [su c];rfl
theorem zJ(S:SS)(c:List Int):(gl S c).row=S.row:=su _ _
structure q7(S:SS)(t:List Int):Prop where
 pw:t.Pairwise λ x y=>y≠-x
 len:t.length<64
 ne:t≠[]
 rng:∀l∈t,-1000<=l/\l<=1000
 hts:∀l∈t.tail,(lk S.heights l.natAbs).isSome
end
end
section
section
variable{C:Cx}{F:c_}{n:Nat}{m:Str->Option Value}{U U' :AH}{Z Y Y' :List (Addr×Obj)}{s s' :aE}
theorem lS{Q:Value->AH->Prop}(h:Q (.bool (!(v==.none))) U):iK C F n (a_ .IsNot) v .none m U (qe Q):=λ a b ha hb O Z s W R K=>by
 refine LH hb ?_
 subst ha
 refine isnot_none_gen (K _ _ _ R ?_)
 cases a<;>exact h
theorem xk{Q:Value->AH->Prop}(h:Q (.bool false) U):iK C F n (a_ .IsNot) .none .none m U (qe Q):=lS h
theorem xj{Q:Value->AH->Prop}(h:Q (.bool true) U):iK C F n (a_ .IsNot) (.ref a) .none m U (qe Q):=lS h
theorem DB{Q:Value->AH->Prop}(h:∀D,U.get D=none->WE C F n k m (U.put D (.dict [])) λ kv U1=>WE C F n v m U1 λ vv QB=>∃i,kv=vi i/\QB.get D=some (.dict [])/\Q (.ref D) (QB.put D (.dict [(i,vv)]))):WE C F n (.Dict [some k] [v] pos) m U Q:=λ O Z s W R K=>by
 refine M8 (knd:=eR C.prog C.w) rfl rfl (by simp) (by simp) (aU (R.push O (tk:=s.toks) (o:={cls:=.type "dict",data:=.dict #[]}) (ao:=.dict []) ⟨[],iB _,rfl⟩) λ R₁ hn=>(pU (h _ hn O Z _ _ R₁ λ kv s₁ U1 R₁ QC=>QC O Z s₁ _ R₁ λ vv s₂ QB R₂ ⟨i,e,hg,q⟩=>Jt (iU e λ t=>(aM ((R₂.sg _ _ hg).2) λ QK hm hx=>?_)))))
 obtain rfl:QK =[]:=by simpa using hx
 refine fW [(i,vv)] ⟨lb C i t,rfl,trivial⟩ hm (λ h' Ry hs=>(K _ _ _ (R₂.set O R₂.core.upd hg (λ b o nb e=>(hs.2 b nb).trans e) (o:=.dict [(i,er vv)]) ⟨_,Ry,rfl⟩) q))
theorem Av{Q:Value->AH->Prop}(h:∀D,U.get D=none->WE C F n k1 m (U.put D (.sdict [])) λ a U1=>WE C F n v1 m U1 λ va QB=>WE C F n k2 m QB λ b QG=>WE C F n v2 m QG λ vb U4=>
   ∃i j,a=.str i 0/\b=.str j 0/\i≠j/\U4.get D=some (.sdict [])/\Q (.ref D) (U4.put D (.sdict [(i,va),(j,vb)]))):WE C F n (.Dict [some k1,some k2] [v1,v2] pos) m U Q:=λ O Z s W R K=>by
 refine M8 (knd:=strKind C.prog C.w) rfl rfl (by simp) (by simp) (aU (R.push O (tk:=s.toks) (o:={cls:=.type "dict",data:=.dict #[]}) (ao:=.sdict []) ⟨[],iB _,rfl⟩) λ R₁ hn=>(pU (h _ hn O Z _ _ R₁ λ kv s₁ U1 R₁ QC=>QC O Z s₁ _ R₁ λ va s₂ QB R₂ QP=>pU (QP O Z s₂ _ R₂ λ kb s₃ QG R₃ Q_=>Q_ O Z s₃ _ R₃ λ vb s₄ U4 R4 ⟨i,j,e1,e2,hne,hg,q⟩=>Jt (MX e1 λ t=>(MX e2 λ u=>(aM ((R4.sg _ _ hg).2) λ QK hm hx=>?_)))))))
 obtain rfl:QK =[]:=by simpa using hx
 refine fW [(i,va),(j,vb)] ⟨yd C i t,rfl,yd C j u,rfl,trivial⟩ hm (λ h' Ry hs=>(K _ _ _ (R4.set O R4.core.upd hg (λ b o nb e=>(hs.2 b nb).trans e) (o:=.sdict [(i,er va),(j,er vb)]) ⟨_,Ry,?_⟩) q))
 simp [re,cW,hne]
theorem sb{K:Type}[DecidableEq K]:∀(b a:List (K×Value)),(re a b).map (λ p=>(p.1,er p.2))=re (a.map λ p=>(p.1,er p.2)) (b.map λ p=>(p.1,er p.2))
 | [],a=>rfl
 | p::b,a=>by
  refine (?_:(re (cW a p.1 p.2) b).map _=re (cW _ p.1 (er p.2)) _)
  rewrite [sb b];rewrite [i_ er];rfl
theorem Ai{Q:Value->AH->Prop}(hd:U.get d=some (.dict kvs))(ho:U.get o=some (.dict more))(hne:d≠o)(hz:kvs.length+more.length<=1000000)(h:Q .none (U.put d (.dict (re kvs more)))):
  WB C F n (.builtin "dict.update") [.ref d,.ref o] m U (qe Q):=λ QE e O Z s W R K=>by
 refine Pb e (aM ((R.sg _ _ hd).2) λ QK hm hx=>(aM ((R.sg _ _ ho).2) λ TX Ry hx' =>?_))
 have hl:QK.length=kvs.length:=dI hx (ah (ae ..) rfl)
 have hl' :TX.length=more.length:=dI hx' (ah (ae ..) rfl)
 refine kj rR hm.typeIs PySem.F.entry_dict_update (PySem.F.args_dict_update_2 _ _) (meets_dict_update (eR C.prog C.w) d o hne (R.notSys ho)) (pn QK TX hm Ry (by refine ah cB ?_;exact PI hz hl hl') (λ h' h1 h2 hs=>(K _ _ _ (R.set O R.core.upd hd (λ b o nb e=>(hs.2 b nb).trans e) (o:=.dict (re kvs more)) ⟨_,h1,?_⟩) h)))
 exact af (sb ..) (ah hx (ah hx' rfl))
end
end
section
section
variable{C:Cx}{F:c_}{n:Nat}{m:Str->Option Value}{U U' :AH}{X:Sx}{A A' :Ad}{S S' :SS}{me:Addr}{E E' :List (Addr×aT)}
noncomputable def iN(f:List Int)(k:Int):List Int:=if k∈f then f else f++[k]
theorem lH(f:List Int)(k:Int):cW (jZ f) k (.bool true)=jZ (iN f k):=oF f k
theorem pi:∀(g f:List Int),re (jZ f) (jZ g)=jZ (g.foldl iN f)
 | [],f=>rfl
 | k::g,f=>by
  refine ((ah (lH ..) ?_):re (cW (jZ f) k (.bool true)) (jZ g)=_);rewrite [pi g];rfl
theorem mJ:∀(g f:List Int),(g.foldl iN f).length<=f.length+g.length
 | [],f=>az _
 | k::g,f=>by
  have:=mJ g (iN f k)
  have h:(iN f k).length<=f.length+1:=by unfold iN;refine eH (λ V=>?_) λ V=>?_<;>simp
  refine ah en (ah bF ?_);exact Ks h this
end
section
variable{C:Cx}{F:c_}{n:Nat}{m:Str->Option Value}{U U' :AH}{X:Sx}{A A' :Ad}{S S' :SS}{me:Addr}{E E' :List (Addr×aT)}
noncomputable def d8(S:SS)(t:List Int×List Int)(l:Int):List Int×List Int:=
 if (l.natAbs:Int)∈t.2/\0<j_ S l then
  match (lk S.causes l.natAbs).getD none with
  | none=>(t.1++[l],t.2)
  | some c=>(t.1,(((S.rows.getD c []).map λ x=>(x.natAbs:Int)).foldl iN []).foldl iN t.2)
 else t
structure yY(S:SS):Prop where
 hts:∀l∈S.row,(lk S.heights l.natAbs).isSome
 cau:∀l∈S.row,∃o,lk S.causes l.natAbs=some o/\∀c,o=some c->∃r,S.rows[c]? =some r/\r.length<=1000
 len:S.row.length<=50
end
end
section
open PySem.SeqAt PySem.AutoSeq1 PySem.MeetsSeq PySem.MeetsSeq2 PySem.MeetsSeq3
theorem wr(l b:Addr)(items items2:Array Value)(n n2:Nat)(dd YR:Option Addr)(sl Xq:Array (Option Value))(e:Nat->Bool):
  Meets (fM.«tuple.__gt__» ⟨[.ref l,.ref b],[]⟩)
   (λ A R s=>s.heap.get? l=some {cls:=.type "tuple",dict:=dd,data:=.seq items n,slots:=sl}/\s.heap.get? b=some {cls:=.type "tuple",dict:=YR,data:=.seq items2 n2,slots:=Xq}/\
    (∀j (h1:j<items.size) (h2:j<items2.size),EqAt A.in1 s items[j] items2[j] (e j)/\∃i t k u,items[j]=.int i t/\items2[j]=.int k u)/\
    ∀r:Bool,R (.ok (.ret (.bool r))) s):=
 .of_wp λ prog w A R s h=>by
  obtain ⟨hp,g,d,tk,os⟩:=s;refine fD h λ hl hb he h=>?_
  have f2:=QA
  have hZ:(items.toList.zip items2.toList).length=min items.size items2.size:=by simp
  wp_walk using M7 hl,M7 hb,wpAny_forIn_list _ (λ rest b s' =>b.1=none/\s' =⟨hp,g,d,tk,os⟩/\∃i,rest=(items.toList.zip items2.toList).drop i) _
  case turn=>
   intro QI rest b s' QL;obtain ⟨y,x⟩:=QI;obtain ⟨hb',rfl,i,hz⟩:=QL
   have hlt:i<(items.toList.zip items2.toList).length:=by
    rcases cx i (items.toList.zip items2.toList).length with h' | h'
    ·exact h'
    ·replace hz:=List.drop_of_length_le h' ▸hz;cases hz
   have hm:i<min items.size items2.size:=hZ▸hlt
   have h1:i<items.size:=aq hm (jw _ _)
   have h2:i<items2.size:=aq hm (ri _ _)
   replace hz:=gD hlt▸hz
   injection hz with hyx hrest
   have hy:y=items[i]:=by have:=congrArg HB hyx;simpa using this
   have hx:x=items2[i]:=by have:=congrArg Prod.snd hyx;simpa using this
   obtain ⟨VW,p,t,k,u,e1,e2⟩:=he i h1 h2
   refine ax ((hy▸hx▸VW) prog w _ _ ?_)
   cases hyy:e i with
   | true=>
    wp_walk
    exact ⟨rfl,rfl,i+1,hrest⟩
   | false=>
    exact ah hy (ah hx (ah e1 (ah e2 (ax (nv (ax (gt_int (ax (aZ (aZ (aZ ⟨_,rfl,h _⟩)))))))))))
  case fin=>
   intro QT s' QW;obtain ⟨b1,b2⟩:=QT;obtain ⟨hb',rfl,i,hz⟩:=QW
   simp only at hb'
   subst hb'
   wp_walk
   exact cC _ rfl (h _)
  case h=>exact ⟨rfl,rfl,0,rfl⟩
section
variable{C:Cx}{F:c_}{n:Nat}{m:Str->Option Value}{U U' :AH}{Z Y Y' :List (Addr×Obj)}{s s' :aE}
theorem vp{xs ys:List Int}{Q:Value->AH->Prop}(ha:U.rd a=some (.tup (xs.map vi)))(hb:U.rd b=some (.tup (ys.map vi)))(h:∀r:Bool,Q (.bool r) U):iK C F n (a_ .Gt) (.ref a) (.ref b) m U (qe Q):=λ a' b' e1 e2 O Z s W R K=>by
 refine ah (dJ e1) (ah (dJ e2) (ck (R.at ha) λ vs c hv hx=>(ck (R.at hb) λ ws c' hw hy=>?_)))
 have hi:∀(vs:List Value) (xs:List Int),vs.map er=xs.map vi->∀(j:Nat) (hj:j<vs.toArray.size),∃i t,vs.toArray[j]=.int i t:=λ vs xs hx j hj=>by
  have hl:=dw hx
  replace hl:=(ae ..)▸hl
  replace hj:=bo▸hj
  have:(vs.map er)[j]? =some (vi (xs[j]'(aq hj (aC hl)))):=ah hx (af ay (ah (aA (aq hj (aC hl))) rfl))
  replace this:=aA hj▸ay▸this
  exact aS (mv (aO this)) λ t ht=>(yD _ t (af (List.getElem_toArray ..) ht))
 exact PySem.richCompare_meets_room (op:=.Gt) ⟨_,hv,rfl⟩ ⟨_,hw,rfl⟩ PySem.F.slot_tuple_gt PySem.F.entry_tuple_gt (PySem.F.args_tuple_gt_2 _ _) (wr a b vs.toArray ws.toArray c c' none none #[] #[] λ j=>match vs.toArray[j]?,ws.toArray[j]? with | some (.int p _),some (.int q _)=>p==q | _,_=>false) ⟨hv,hw,λ j h1 h2=>(fg (hi vs xs hx j h1) λ i t e1=>(fg (hi ws ys hy j h2) λ k u e2=>(⟨(ah (gy h1) (ah (gy h2) (ah e1 (ah e2 (EqAt.int_int i t k u))))),i,t,k,u,e1,e2⟩))),λ r=>⟨(λ x=>nomatch x),K _ _ _ (R) (h r)⟩⟩ (by have:=O.units;exact au (aB _ _) this)
end
end
section
section
variable{C:Cx}{F:c_}{n:Nat}{m:Str->Option Value}{U U' :AH}{X:Sx}{A A' :Ad}{S S' :SS}{me:Addr}{E E' :List (Addr×aT)}
theorem lO{α:Type}{r:List (Int×α)}(h:k∈r.map (·.1)):∃v,lk r k=some v:=by
 cases e:lk r k with
 | some v=>exact ⟨v,rfl⟩
 | none=>exact absurd h ((gF _ _).mp e)
noncomputable def Mq(S:SS)(v:Int)(ks:List Int):Prop:=(v=0/\∀k∈ks,(lk S.known k).isSome)\/(v∈ks/\lk S.known v=none)
noncomputable def ka(S:SS)(l:Int):SS:=match says S l with
 | none=>j8 (S.uBegins (S.begins++[S.row.length])) l none
 | some _=>(S.uBegins (S.begins++[S.row.length]))
structure vT(S:SS)(as:List Int)(P:SS->Option Bool->Prop):Prop where
 lock:S.lock=none
 keys:∀k∈S.heats.map (·.1),1<=k
 b1:S.row.length<90000
 b2:S.begins.length<90000
 b3:S.log.length<90000
 b4:as.length<=1000
 b5:∀l∈as,-1000<=l/\l<=1000
 asm:∀l,as[S.begins.length]? =some l->(says S l=some false->yY S/\
   (let f:=(S.row.reverse.foldl (d8 S) ([l],[(l.natAbs:Int)])).1
    (¬(f.map λ x=>-x).Pairwise (λ x y=>y≠-x)->P (S.uBlamed f) (some false))/\
    ((f.map λ x=>-x).Pairwise (λ x y=>y≠-x)->∀c,t4 (f.map λ x=>-x) c->P ((S.uBlamed f).uLog (S.log++[c])) (some false))))/\
  (says S l≠some false->P (ka S l) none)
 free:as.length<=S.begins.length->((∀k∈S.heats.map (·.1),(lk S.known k).isSome)->P S (some true))/\∀v∈S.heats.map (·.1),lk S.known v=none->∀l,l=v\/l=-v->P (ka S l) none
end
end
section
section
variable{C:Cx}{F:c_}{n:Nat}{m:Str->Option Value}{U U' :AH}{Z Y Y' :List (Addr×Obj)}{s s' :aE}
theorem Ar{Q:Bool->AH->Prop}(hm:ii Sf r2=false)
  (h:WE C F n l m U λ a U1=>WE C F n r1 m U1 λ b QB=>iK C F n (a_ Ts) a b m QB (qe λ c QG=>WV C F n kW c m QG λ t U4=>
   if t then WE C F n r2 m U4 λ d U5=>iK C F n (a_ Sf) b d m U5 (qe λ c U6=>WV C F n kW c m U6 Q) else Q false U4)):WT C F n (.Compare l [Ts,Sf] [r1,r2] pos) m U Q:=λ O Z s W R K=>by
 refine ((ah (markedBehindIn_of_false hm) (ax (h O Z s _ R λ a s₁ U1 R₁ QC=>(((ax (bR (QC O Z s₁ _ R₁ λ b s₂ QB R₂ QP=>(ax (d_ (ax (bR (QP a b rfl rfl O Z s₂ _ R₂ λ c s₃ QG R₃ Q_=>(ax (Pj (ax (bR (Q_ c rfl O Z s₃ _ R₃ λ t s₄ U4 R4 Rq=>?_))))))))))))):br _ _ (do
  let rv<-eS [a] (fF r1 F.env)
  ft pos
  let c<-eS [a,rv] (a_ Ts a rv)
  release [a,rv] [c]
  if<-eS [c,rv] (kW c) then testChain pos rv [Sf] [fF r2 F.env] else dG false) _ _ _))))):br _ _ (do testChain pos (<-fF l F.env) [Ts,Sf] [fF r1 F.env,markedBehindIn Sf r2 (fF r2 F.env)]) _ _ _)
 cases t with
 | false=>exact aZ (K _ _ _ R4 Rq)
 | true=>
  have h4' :WE C F n r2 m U4 λ d U5=>iK C F n (a_ Sf) (er b) d m U5 (qe λ c U6=>WV C F n kW c m U6 Q):=Rq
  exact ((ax (bR (h4' O Z s₄ _ R4 λ d S_ U5 R5 Sj=>(ax (d_ (ax (wpAny_operateT (Sj b d rfl rfl O Z S_ _ R5 λ c s6 U6 R6 Wg=>(bR (Wg c rfl O Z s6 _ R6 K)))))))))):br _ _ (do
   let rv<-eS [b] (fF r2 F.env)
   ft pos
   let c<-operate [b,rv] (a_ Sf b rv)
   eS [c] (kW c)) _ _ _)
end
end
section
section
variable{C:Cx}{F:c_}{n:Nat}{m:Str->Option Value}{U U' :AH}{X:Sx}{A A' :Ad}{S S' :SS}{me:Addr}{E E' :List (Addr×aT)}
noncomputable def uL(h:List (Int×Int))(l:Int):List (Int×Int):=if (lk h l.natAbs).isSome then h else ins h l.natAbs 0
structure mK(as:List Int)(c0:Nat)(I:SS->Nat->Prop)(Fin:SS->Bool->Prop)(FinX:SS->Prop):Prop where
 refd:∀S k,I S k->S.refuted=true->Fin S false
 turn:∀S k,I S k->mM S->S.refuted=false->∃J M P,q8 J M P/\J S/\
  (∀S' i,P S' i->mM S' ->∃L PL,(S'.begins≠[]->jt S' L PL/\L [] [] 0 S'.row.length 0 i)/\(∀t,PL t->q7 S' t)/\S'.lock=none/\Tr S' /\S'.log.length<90000/\S'.rows.length<90000/\Wz S' 80000/\S'.row.length<90000/\
   (S'.begins=[]->∃k',k' <k/\I (mn (S'.uClashes (S'.clashes+1))) k')/\
   (S'.begins≠[]->∀S₁ t d c τ g,PL t->P2 (S'.uClashes (S'.clashes+1)) S₁->t=d::t.tail->t4 t c->τ.Perm t.tail->τ.Pairwise (λ x y=>j_ S' y<=j_ S' x)->∃k',k' <k/\I ((jT S₁ d c τ).uGain g) k'))/\
  (∀S',J S' ->mM S' ->S'.row.length<=S'.seen->c0<=S'.clashes/\S'.clashes<c0+16/\(0<S'.limit->S'.limit<=(S'.clashes:Int)-(c0:Int)->FinX S')/\vT S' as λ UK o=>match o with
   | none=>∃k',k' <k/\I UK k'
   | some b=>Fin UK b)
end
end
section
section
variable{k:Nat}{C:Cx}{F:c_}{n:Nat}{m:Str->Option Value}{U U' :AH}{Z Y Y' :List (Addr×Obj)}{s s' :aE}
theorem u6(A:dY):A.in1.units<=A.units+3:=((aV (aj _ _) _):A.units+_<=_)
noncomputable def pE(C:Cx)(U:AH)(k:Nat)(v w:Value)(b:Bool):Prop:=∀(F:c_) (Z:List (Addr×Obj)) (s:aE) (m:Str->Option Value),cj C F Z s m U->∀v' w',er v' =v->er w' =w->∀A:dY,A.units+k<cLine->OM A s v' w' b
theorem pE.bools(a b:Bool):pE C U k (.bool a) (.bool b) (a==b):=λ F Z s m R v w e1 e2 A hu=>Ei e1 (Ei e2 (HA a b))
theorem pE.none_bool(b:Bool):pE C U k .none (.bool b) false:=λ F Z s m R v w e1 e2 A hu=>LH e1 (Ei e2 (Hy b))
theorem pE.same(a:Addr):pE C U k (.ref a) (.ref a) true:=λ F Z s m R v w e1 e2 A hu=>jz e1 (jz e2 (Hw _))
theorem pE.tups{e:Nat->Bool}(ha:U.rd a=some (.tup xs))(hb:U.rd b=some (.tup ys))(hne:a≠b)
  (he:∀j x y,xs[j]? =some x->ys[j]? =some y->pE C U k x y (e j)):pE C U (k+3) (.ref a) (.ref b) ((cV (min xs.length ys.length)).all e&&xs.length==ys.length):=λ F Z s m R v w e1 e2 A hA=>by
 refine jz e1 (jz e2 (ck (R.at ha) λ vs c hv hx=>(ck (R.at hb) λ ws c' hw hy=>?_)))
 have h1:=dw hx
 have h2:=dw hy
 have:=Hs (A:=A) (s:=s) (items:=vs.toArray) (items2:=ws.toArray) (e:=e) ⟨_,hv,rfl,_,rfl⟩ ⟨_,hw,rfl,_,rfl⟩ (au (aB _ _) hA) λ j q1 q2=>by
  rw [bo] at q1 q2
  exact he j (er vs[j]) (er ws[j]) (dI hx (af ay (ah (aA q1) rfl))) (dI hy (af ay (ah (aA q2) rfl))) F Z s m R _ _ rfl rfl A.in1 (by have:=u6 A;exact au (b8 this _) (ya (dL _ _ _) hA))
 replace this:=h2▸h1▸bo▸bo▸this
 exact Hx hne this
theorem Dl{e:Value->Bool}:∀{vs:List Value},vs.toArray.any (λ y=>e (er y))=(vs.map er).any e:=by
 intro vs
 simp [lE,Qy]
theorem pA{e:Value->Bool}{Q:Value->AH->Prop}(ha:U.rd a=some (.list xs))(he:∀y∈xs,pE C U 6 y x (e y))(h:Q (.bool (xs.any e)) U):iK C F (n+1) (a_ .In) x (.ref a) m U (qe Q):=λ x' a' e1 e2 O Z s W R K=>by
 refine jz e2 (ck (R.at ha) λ vs c hv hx=>?_)
 have hu:=O.units
 have hi:=u6 F.A
 refine OL (items:=vs.toArray) (λ y=>e (er y)) ⟨_,hv,rfl,_,rfl⟩ (λ y hy=>he (er y) ?_ F Z s m R y x' rfl e1 _ (by lia)) (K _ _ _ R ?_)
 ·exact dI hx (bf (by simpa using hy))
 ·refine (?_:Q (.bool _) U)
  exact ah Dl (ah hx h)
theorem qI{e:Value->Bool}{Q:Value->AH->Prop}(ha:U.rd a=some (.list xs))(he:∀y∈xs,pE C U 6 y x (e y))(h:Q (.bool (!xs.any e)) U):iK C F (n+1) (a_ .NotIn) x (.ref a) m U (qe Q):=λ x' a' e1 e2 O Z s W R K=>by
 refine jz e2 (ck (R.at ha) λ vs c hv hx=>?_)
 have hu:=O.units
 have hi:=u6 F.A
 refine OK (items:=vs.toArray) (λ y=>e (er y)) ⟨_,hv,rfl,_,rfl⟩ (λ y hy=>he (er y) ?_ F Z s m R y x' rfl e1 _ (by lia)) (K _ _ _ R ?_)
 ·exact dI hx (bf (by simpa using hy))
 ·refine (?_:Q (.bool _) U)
  exact ah Dl (ah hx h)
end
end
section
section
variable{C:Cx}{F:c_}{n:Nat}{m:Str->Option Value}{U U' :AH}{X:Sx}{A A' :Ad}{S S' :SS}{me:Addr}{E E' :List (Addr×aT)}
theorem sR:∀{c ls:List Int},c.Nodup->(∀x∈c,x∈ls)->c.length<=ls.length
 | [],_,_,_=>bb _
 | x::c,ls,hn,hs=>by
  refine aU (bp.mp hn) λ h1 h2=>?_
  have hx:=hs x (.head _)
  have:=sR (ls:=ls.erase x) h2 λ y hy=>(List.mem_erase_of_ne (λ e=>h1 (by exact dI e hy))).mpr (hs y (.tail _ hy))
  replace this:=List.length_erase_of_mem hx▸this
  have:=wc hx
  refine ah bF ?_;lia
noncomputable def lP(S:SS)(c:List Int):List Int:=c.filter λ l=>(says S l).isNone
noncomputable def Dn(S:SS)(c:List Int):SS:=if S.refuted=true\/(c.any λ l=>says S l==some true)=true then S else match lP S c with
 | []=>mn S
 | [l]=>j8 S l none
 | l::k::r=>gl S (l::k::r)
noncomputable def fk(S:SS)(ls:List Int):SS:=((bT S 0).uHeats (ls.foldl uL S.heats))
end
end
section
noncomputable abbrev Fk(b:Bk)(qual:Str)(scope:Scope)(f:Addr)(cdv:Value)(cc:Addr):c_:=
 {A:=b.A.deeper (xN qual scope b.L f cdv cc),fenv:=xN qual scope b.L f cdv cc,env:=xN qual scope b.L f cdv cc,outer:=b.outer,A0:=b.A0,base:=b.base,h₀:=b.h₀,L:=b.L,oL:=none,cells:=[]}
section
variable{C:Cx}{F:c_}{n:Nat}{m:Str->Option Value}{U U' :AH}{Z Y Y' :List (Addr×Obj)}{s s' :aE}
theorem A9{α:Type}{t:Sem α}{Q:α->aE->Prop}{E:Value->aE->Prop}(h:br M A t Q E s):_root_.PySem.wpAt M A c t Q E s:=wpAt_of_wpAny h
theorem tI{names:List Str}(hn:names.Nodup){v:Value}(h:(names.zip args).lookup x=some v):(names.zip args).reverse.lookup x=some v:=by
 induction names generalizing args with
 | nil=>exact (bw h).elim
 | cons y r ih=>
  cases args with
  | nil=>exact (bw h).elim
  | cons a as=>
   refine aU (bp.mp hn) λ h1 h2=>?_
   replace h:=eO▸h;rewrite [bq] at h
   refine ah eO (ah gb (af List.lookup_append ?_))
   split at h
   ·rename_i e
    have e' :=cG e
    clear e hn;subst e'
    have:(r.zip as).reverse.lookup x=none:=by
     refine io List.lookup_eq_none_iff ?_
     intro p hp
     have:=(ff (a:=p.1) (b:=p.2) (gw.mp hp)).1
     exact bne_iff_ne.mpr (λ(q:x=p.1)=>h1 (ah q this))
    exact ah this (af Option.none_or (af bq (ah (beq_self_eq_true ..) h)))
   ·exact ah (ih h2 h) (af Option.some_or rfl)
theorem na:∀(l:List (Str×Value)) (m:Str->Option Value),(l.map (·.1)).Nodup->∀y v,wO l m y=some v->l.lookup y=some v\/m y=some v
 | [],m,_,y,v,h=> .inr h
 | (k,a)::r,m,hn,y,v,h=>by
  refine aU (bp.mp hn) λ h1 h2=>?_
  (try clear hn);rcases na r (fe m k a) h2 y v h with q | q
  ·left
   have:y≠k:=λ e=>h1 (aJ.mpr ⟨(y,v),mem_of_lookup q,e⟩)
   exact af bq (ah (beq_false_of_ne this) q)
  ·unfold fe at q
   split at q
   ·rename_i e;clear h h1;subst e;left;exact af bq (ah (beq_self_eq_true ..) q)
   ·exact .inr q
theorem oM:∀(l:List (Str×Value)) (y:Str),(l.map λ p=>(p.1,er p.2)).lookup y=(l.lookup y).map er
 | [],y=>rfl
 | (k,a)::r,y=>by
  refine ah bc (af bq (ah bq (ah (oM r y) ?_)))
  by_cases e:y=k
  ·subst e;simp
  ·simp [beq_false_of_ne e]
theorem cj.leave{m' :Str->Option Value}{mL:Str->Option Value}(O:F.Ok C n)(R:cj C F Z s m U)(FR:Fr F.h₀ F.L s.heap mL)(Q9 :cj C Fs (Z++dQ s.heap F.ownA) s' m' U')(FE:Fr F.h₀ F.L s'.heap mL)(NE:ot F.h₀ F.L s'.heap (Z++dQ s.heap F.ownA++dQ s'.heap (U'.map (·.1)))):cj C F Z s' m U' :=by
 have ownKeep:∀a∈F.ownA,∀o,s.heap.get? a=some o->s'.heap.get? a=some o:=λ a ha o e=>
  (Q9.zz (a,o) (ai _ (bH.mpr ⟨ha,e⟩))).1
 have locKeep:∀ml,s.heap.Ns F.env.locals ml->s'.heap.Ns F.env.locals ml:=λ ml h=>by
  cases hl:F.oL with
  | none=>
   have e:=O.el hl
   rw [e] at h⊢
   exact ah (fC h FR.ns) FE.ns
  | some o=>exact d4 h λ ob e=>ownKeep _ (by simp [c_.ownA,hl]) ob e
 refine ⟨Q9.core,⟨mL,FE⟩,λ ml e=>?_,?_,λ x v hx=>?_,λ x hx=>?_,λ a ha=>?_,λ p hp=>?_,λ a o e=>?_,Q9.sm⟩
 ·exact ah (fC (R.inn ml e) FR.ns) FE.ns
 ·exact aS R.loc λ ml h=>⟨ml,locKeep ml h⟩
 ·obtain ⟨a,a',cv,e,q⟩:=R.var x v hx
  refine ⟨a,a',cv,e,?_⟩
  rcases q with ⟨k,ml,hm,hv⟩ | ⟨k,c,hc,hv⟩
  ·exact .inl ⟨k,ml,locKeep ml hm,hv⟩
  ·exact .inr ⟨k,c,hc,cQ hv λ o e=>ownKeep _ (by simp [c_.ownA];exact .inl ⟨_,mem_of_lookup hc⟩) o e⟩
 ·exact aS (R.cel x hx) λ cv h=>⟨cv,cQ h λ o e=>ownKeep _ (by simp [c_.ownA];exact .inl ⟨_,hx⟩) o e⟩
 ·refine cu (R.own a ha) λ QI b c=>(cu QI λ Rb l2 l3=>?_);clear QI;obtain ⟨o,ho⟩:=Rb
  exact du ⟨⟨o,ownKeep a ha o ho⟩,l2,l3⟩ ((Q9.zz (a,o) (ai _ (bH.mpr ⟨ha,ho⟩))).2.2.2) c
 ·exact fD (Q9.zz p (ak _ hp)) λ a b c d=>(fD (R.zz p hp) λ V b' c' V=>(gN a b' c' d))
 ·refine aU (Q9.sg a o e) λ QL q=>(cu QL λ Q8 V V=>?_);clear QL;obtain ⟨ob,x⟩:=Q8
  exact cu (NE (a,ob) (ai _ (bH.mpr ⟨AH.dom' e,x⟩))) λ V h2 h3=>⟨⟨⟨ob,x⟩,h2,h3⟩,q⟩
theorem DG{f f2 cc D SU x Cl dx:Addr}{name qual:Str}{params:MO}{rest:List Stmt}{p0 p1 ap cp ep:Pos}{scope:Scope}{dV kV Sd pm ct oc YX cl:Value}{an od YU YT:Option Addr}{Um YW YS:Array (Option Value)}{ar:Arg}{vs:Array Value}{file:Str}{tf:Tok}{YV:ClassData}{fs:List (Str×Value)}
  {args:List Value} {names:List Str} {pl:Sem Bool} {Q:Value->AH->Prop}
  (ho:C.K.lookup f=some ⟨oc,od,.func (ksFn name qual params (.Expr (.Call (.Attribute (.Call (.Name "super" p0) [] [] p1) "__init__" ap) [] [] cp) ep::rest) scope dV kV Sd pm an (.ref SU) ct cc),Um⟩) (Rz:OJ C.K (.ref SU) qual=true)
  (hlen:args.length=names.length)
  (Rl:∀vs:List Value,vs.length=(ar.arg::names).length->GE (ksFn name qual params (.Expr (.Call (.Attribute (.Call (.Name "super" p0) [] [] p1) "__init__" ap) [] [] cp) ep::rest) scope dV kV Sd pm an (.ref SU) ct cc) ⟨vs,[]⟩=dG ((ar.arg::names).zip vs))
  (Ru:∀y∈ar.arg::names,hV y=true/\scope.names.lookup y=some .local) (Ut:(ar.arg::names).Nodup) (hfr:∀y∈scope.names,y.2≠ .cell/\(y.2=.free->y.1="__class__"))
  (Tz:scope.isCoroutine=false) (RZ:scope.isGenerator=false) (hk:scope.kind=.function)
  (hp:(params.posonlyargs++params.args).head? =some ar) (Vf:C.K.lookup SU=some ⟨YX,YU,.fields vs,YW⟩) (Uo:vs[2]? =some (.str file tf)) (hfile:((C.prog.main.file:Str)==file)=true)
  (Sp:C.K.lookup cc=some ⟨cl,YT,.cell (some (.ref D)),YS⟩) (hD:clsIn C.K D=some YV) (hsub:mroIn C.K Cl (.ref D)=some true) (Ui:oq C.K cX "super"=some none)
  (X5:scope.names.lookup ("super":Str)=some .globalImplicit) (VO:scope.names.lookup ("__class__":Str)=some .free)
  (SA:(C.prog.main.scope.names.lookup ("super":Str)).isSome=false) (Vg:fu "super"=some (.type "super"))
  (XM:oq C.K cStatics "thirdparty.any"=some none) (Uw:ks_superIn C.K Cl D "__init__"=some (some (.ref f2))) (XO:typeIn C.K (.ref f2)=some (.type "function")) (Yd:fnIn C.K f2=true)
  (Ws:∀L,GC (xN qual scope L f (.ref SU) cc)=false) (SW:∀L,iE (.Call (.Attribute (.Call (.Name "super" p0) [] [] p1) "__init__" ap) [] [] cp) none ep.line (xN qual scope L f (.ref SU) cc)=dG false)
  (he:∀L,fF (.Call (.Attribute (.Call (.Name "super" p0) [] [] p1) "__init__" ap) [] [] cp) (xN qual scope L f (.ref SU) cc)=(do
   let ov<-AE (.Call (.Name "super" p0) [] [] p1) "__init__" (xN qual scope L f (.ref SU) cc) (fF (.Call (.Name "super" p0) [] [] p1) (xN qual scope L f (.ref SU) cc))
   ft ap.atName
   let (fv,first)<-eS [ov] (kx ov "__init__" pl)
   kZ cp fv first (eI cp (cO [] (xN qual scope L f (.ref SU) cc))) []))
  (hx:U.get x=some (.inst Cl dx)) (W9:U.get dx=some (.ns fs))
  (hw:∀b:Bk,WC C n f2 [.ref x] U λ V τ=>WS C (Fk b qual scope f (.ref SU) cc) n rest (wO ((ar.arg::names).zip (.ref x::args)) λ V=>none) τ λ fl V U' =>Q (er (match fl with | .ret v=>v | _=> .none)) U'):
  WC C (n+1) f (.ref x::args) U Q:=by
 intro F Z s m T4 O R Ro
 refine aS R.fr λ mL FR=>?_
 obtain ⟨x',QE,rfl,ex,eargs2⟩:∃x' as,T4=x' ::as/\er x' =.ref x/\as.map er=args:=by
  cases T4 with
  | nil=>cases Ro
  | cons a as=>exact lc a as rfl ((rj Ro).1) ((rj Ro).2)
 (try clear Ro);obtain rfl:=dJ ex
 have hlen' :(bA x::QE).length=(ar.arg::names).length:=af bF (ah bF (dI hlen (dI eargs2 (ah (ae ..) rfl))))
 let own:=dQ s.heap F.ownA
 let sg:=dQ s.heap (U.map (·.1))
 have N:ot F.h₀ F.L s.heap (Z++own++sg):=R.news
 have hsub2:(ar.arg::names).zip (bA x::args)=((ar.arg::names).zip (bA x::QE)).map λ p=>(p.1,er p.2):=dI eargs2 (af eO (ah eO (ah bc (ah gW rfl))))
 have hcell' :∀y∈scope.names,y.2≠ .cell:=λ y hy=>(hfr y hy).1
 refine ks_code_super O.B FR O.G.X N O.G.T O.hA O.hf O.hk ho Rz (by have:=O.depth;exact au (aB _ _) this) (iF (Rl _ hlen')) (λ y hy=>(Ru y.1 (ff (a:=y.1) (b:=y.2) hy).1).2) ?_ hcell' Tz RZ hk
 intro g L' QC FG F' N' B' X' T' lt
 let b:Bk:=⟨F.A,F.A,F.fenv::F.outer,F.base,g,L'⟩
 let Fs:c_:=Fk b qual scope f (.ref SU) cc
 have O' :Fs.Ok C n:=by
  refine ⟨B',mR O.hA,rfl,hk,⟨X',T'⟩,hk,rfl,rfl,λ V=>rfl,(λ h=>nomatch h),O.handled,.nil,(λ V h=>nomatch h),(λ V V h=>nomatch h),λ y hy hne=>?_,?_,?_,qz⟩
  ·rcases hy with hy | hy
   ·exact absurd rfl (hfr _ (mem_of_lookup hy)).1
   ·exact absurd ((hfr _ (mem_of_lookup hy)).2 rfl) hne
  ·have:=O.depth;refine (?_:F.A.depth+1+3*n<_);exact IA this
  ·have:=O.units;refine (?_:F.A.units+3+10*n<_);exact Iz this
 have hzk:((ar.arg::names).zip (bA x::args)).map (·.1)=ar.arg::names:=Eu (by refine ah bF (ah bF ?_);exact cw (aC hlen.symm))
 have hvar:∀y v,wO ((ar.arg::names).zip (bA x::args)) (λ V=>none) y=some v->∃cv,er cv=v/\((ar.arg::names).zip (bA x::QE)).lookup y=some cv/\y∈ar.arg::names:=by
  intro y v hy
  have hl:=(na _ _ (ah hzk Ut) y v hy).resolve_right (λ h=>nomatch h)
  have hmem:y∈ar.arg::names:=dI hzk (aJ.mpr ⟨(y,v),mem_of_lookup hl,rfl⟩)
  replace hl:=(oM ..)▸hsub2▸hl
  exact aM (aQ.mp hl) λ cv h1 h2=>(fW cv h2 h1 hmem)
 have R' :cj C Fs (Z++own) {s with heap:=QC,toks:=s.toks+((ar.arg::names).zip (bA x::QE)).length} (wO ((ar.arg::names).zip (bA x::args)) λ V=>none) U:=by
  refine ⟨R.core.upd,⟨_,F'⟩,(λ V h=>nomatch h),⟨_,F'.ns⟩,?_,(λ V h=>nomatch h),(λ V h=>nomatch h),?_,?_,R.sm⟩
  ·intro y v hy
   refine c9 (hvar y v hy) λ cv e hl hmem=>?_
   have SX:=Ru y hmem
   have ok:=SX.1
   simp only [hV,dk,b9] at ok
   exact ⟨ok.1,ok.2,cv,e,.inl ⟨SX.2,_,F'.ns,tI Ut hl⟩⟩
  ·intro p hp
   refine cu (N' p (ak _ hp)) λ a b c=>(gN a b c ?_)
   rcases aw.mp hp with hp | hp
   ·exact (R.zz p hp).2.2.2
   ·exact (R.own _ (bH.mp hp).1).2.1
  ·intro a o e
   refine aU (R.sg a o e) λ QT q=>(cu QT λ Rc V V=>?_);clear QT;obtain ⟨ob,x⟩:=Rc
   exact cu (N' (a,ob) (ai _ (bH.mpr ⟨AH.dom' e,x⟩))) λ h1 h2 h3=>⟨⟨⟨ob,h1⟩,h2,h3⟩,q.keep λ o' ho' =>by replace ho' :=x▸ho';clear h2 h3 x;have QW:=sI ho';clear ho';subst QW;exact h1⟩
 have ZF :=O'
 have Zg :=Uw
 refine ck ((R'.sg _ _ W9).2) λ es k Sk hes=>?_
 have hI:=kJ (R'.sg _ _ hx).2 Sk
 refine Ju (Mw (Jv (pl:=pl) ?_ (he _)) ?h1 ?h2)
 case h1=>exact Ws _
 case h2=>exact SW _
 refine ks_node (attr:=aF "__init__") F' X' (R'.news) T' ho hp (tI Ut ?_) hI Vf Uo hfile Sp hD hsub Ui (by rfl) X5 VO (Ru _ (.head _)).2 hk SA Vg λ so h2 F2 N2 l2=>?_
 ·exact ah eO (af bq (ah (beq_self_eq_true ..) rfl))
 have hI2:InstAt h2 x _ Cl _:=kJ (N2 (x,DU Cl dx) (.tail _ (ai _ (bH.mpr ⟨AH.dom' hx,hI.at_⟩)))).1 (N2 (dx,Jx es k) (.tail _ (ai _ (bH.mpr ⟨AH.dom' W9,Sk⟩)))).1
 refine ks_method (s:={s with heap:=h2,toks:=s.toks+((ar.arg::names).zip (bA x::QE)).length}) F2 X' N2 (.head _) hI2 XM Uw XO (by decide) λ q h3 F3 N3 l3=>(GD (P:=MethP C.K q f2 (.ref x)) (by rfl) (keeps_M Yd) (evalArgs_nil3 ⟨methP N3 (.head _) (X'.keeps F3.keep),?_⟩))
 have R₃:cj C Fs (Z++own) {s with heap:=h3,toks:=s.toks+((ar.arg::names).zip (bA x::QE)).length+1} (wO ((ar.arg::names).zip (bA x::args)) λ V=>none) U:=
  R'.back O' F' ⟨R'.core.gens,R'.core.os,R'.core.dr⟩ F3 (λ V=>False) (λ V h=>h.elim) (λ p hp V=>(N3 p (.tail _ (.tail _ hp))).1) λ a o e=> .inl ⟨e,id⟩
 refine call_meth N3 (.head _) (f_ (hw b Fs (Z++own) _ _ [.ref x] O' R₃ rfl) λ r s₄ Q4=>?_)
 obtain ⟨Y4,τ,hr,R4,hq,FE⟩:=Q4
 subst hr
 refine A9 (cz (hq O' _ _ _ R4 λ fl S_ m' U' Q9 VL =>(aS Q9.fr λ To Te =>(CA L' To (Z++own++dQ S_.heap (U'.map (·.1))) Te ?_ (λ FE NE=>⟨_,U',rfl,R.leave O FR Q9 FE NE,VL,λ Xz V8=>ah (fC V8.ns FR.ns) FE⟩)))) (λ V V q=>q) qz)
 intro p hp
 rcases aw.mp hp with hp | hp
 ·exact fD (Q9.zz p hp) λ a b c V=>(du a b c)
 ·refine aU (bH.mp hp) λ a b=>(aS (AH.dom a) λ o e=>(aU (Q9.sg _ _ e) λ QY V=>(cu QY λ V c d=>?_)));clear QY;exact du b c d
end
end
section
section
variable{C:Cx}{F:c_}{n:Nat}{m:Str->Option Value}{U U' :AH}{Z Y Y' :List (Addr×Obj)}{s s' :aE}
theorem xn{Cl fI:Addr}{Q:Value->AH->Prop}(hm:makesIn C.K Cl=true)(hi:gu C.K (.ref Cl) "__init__"=some (some (.ref fI)))(hf:isFn C.K (.ref fI)=true)
  (hne:∃a o,U.get a=some o) (h:∀x dx,U.get x=none->U.get dx=none->x≠dx->WC C k fI (.ref x::args) ((U.put dx (.ns [])).put x (.inst Cl dx)) λ v τ=>v=.none/\Q (.ref x) τ):WB C F (k+1) (.ref Cl) args m U (qe Q):=λ QE e O Z s W R K=>by
 refine c9 (R.viaNews O) λ mL FR N back=>(call_cls FR O.G.X N hm hi hf λ x dx h' F' N' l1 l2=>?_)
 have hlt:∀a o,U.get a=some o->a<dx:=λ a o e=>by
  refine aU (R.sg _ _ e) λ QI V=>(aU QI λ QW V=>?_);clear QI;obtain ⟨ob,q⟩:=QW
  exact l1 (a,ob) (ai _ (bH.mpr ⟨AH.dom' e,q⟩))
 have h3:3<dx:=by refine fg hne λ a o e=>?_;clear hne;exact bD (R.sm _ _ e) (hlt _ _ e)
 have nx:U.get x=none:=by
  cases q:U.get x with
  | none=>rfl
  | some o=>exact absurd (bD (hlt _ _ q) l2) (bP _)
 have nd:U.get dx=none:=by
  cases q:U.get dx with
  | none=>rfl
  | some o=>exact absurd (hlt _ _ q) (bP _)
 have px:=N' (x,DU Cl dx) (.head _)
 have pd:=N' (dx,Jx [] 0) (.tail _ (.head _))
 have R₁:cj C F Z {s with heap:=h' } m ((U.put dx (.ns [])).put x (.inst Cl dx)):=by
  refine R.back O FR ⟨R.core.gens,R.core.os,R.core.dr⟩ F' (λ V=>False) (λ V h=>h.elim) (λ p hp V=>(N' p (.tail _ (.tail _ hp))).1) λ a o e=>?_
  replace e:=(AH.get_put ..)▸e
  split at e
  ·rename_i q;clear N' nx;subst q;have QL:=sI e;clear e;subst QL
   exact .inr ⟨.inr ⟨λ p hp=>bu (bD (l1 p hp) l2),bD h3 l2⟩,⟨⟨_,px.1⟩,px.2.1,px.2.2⟩,px.1⟩
  ·replace e:=(AH.get_put ..)▸e
   split at e
   ·rename_i q;clear N' hlt l2 nd px;subst q;have QT:=sI e;clear e;subst QT
    exact .inr ⟨.inr ⟨λ p hp=>bu (l1 p hp),h3⟩,⟨⟨_,pd.1⟩,pd.2.1,pd.2.2⟩,[],0,pd.1,.nil⟩
   ·exact .inl ⟨e,id⟩
 have w1:(jB "type.__call__" ⟨.ref Cl::QE,[]⟩).weight<=1:=by
  have:(jB "type.__call__" ⟨.ref Cl::QE,[]⟩).weight=1:=by first | rfl | kernel_rfl
  exact aC this
 have w2:(jB "type.__call__" ⟨.ref Cl::QE,[]⟩).cUnits<=5:=by
  have:(jB "type.__call__" ⟨.ref Cl::QE,[]⟩).cUnits=1:=by first | rfl | kernel_rfl
  exact ac (aC this) (ac (az _) (aj _ _))
 have O1:({F with A:=F.A.under (.builtin "type.__call__" ⟨.ref Cl::QE,[]⟩),exc:=λ V V=>False}:c_).Ok C k:=O.withA rfl O.handled (by refine (?_:F.A.depth+_+_<=_);exact Oe w1) (by refine (?_:F.A.units+_+_<=_);exact Od w2)
 refine f_ (h x dx nx nd (dq l2) _ Z _ m (.ref x::QE) O1 R₁.withA (af bc (ah e rfl))) λ r s₂ Q4=>?_
 obtain ⟨v,τ,hr,R₂,⟨hv,hq⟩,_⟩:=Q4
 subst hr
 exact ⟨ni hv,K _ _ _ R₂.unA hq⟩
theorem vO{Cl:Addr}{Q:Value->AH->Prop}(hk:F.env.kindOf x=some .globalImplicit)(hx:oq C.K cX x=some (some (.ref Cl)))(hd:(x==("__debug__":Str))=false)
  (hf:DT C.K (.ref Cl)=true) (hp:noStar args) (h:WL C F n args m U λ vs QB=>WB C F n (.ref Cl) vs m QB (qe Q)):WE C F n (.Call (.Name x p) args [] pos) m U Q:=λ O Z s W R K=>by
 refine ju (dD O.ek hk (iO (ah O.eg (O.G.T.g.keeps R.keep)) (JO O.G.X O.G.T.g hx) ?_) hd)
 exact callWith_def (first:=[]) hf hp (h O Z s pos _ R λ vs s₂ QB R₂ hc=>⟨O.G.X.keeps R₂.keep,hc vs rfl O Z s₂ _ R₂ K⟩)
end
end
section
structure Fl(U:AH)(L:List (Addr×aT)):Prop where
 xt:∀p∈L,U.get p.1=some p.2
 nd:(L.map (·.1)).Nodup
section
variable{C:Cx}{F:c_}{n:Nat}{m:Str->Option Value}{U U' :AH}{X:Sx}{a:Addr}{o o' :aT}{L L' :List (Addr×aT)}
theorem Fl.fresh(T:Fl U L)(h:U.get a=none):Fl (U.put a o) ((a,o)::L):=by
 have hne:∀p∈L,p.1≠a:=λ p hp e=>by have:=T.xt p hp;replace this:=h▸e▸this;exact (bw this).elim
 refine ⟨λ p hp=>?_,bp.mpr ⟨λ q=>?_,T.nd⟩⟩
 ·rcases aL.mp hp with rfl | hp
  ·exact AH.get_put_self _ _ _
  ·exact af (AH.get_put_ne (hne p hp)) (T.xt p hp)
 ·exact aM (aJ.mp q) λ p hp e=>(hne p hp e)
theorem Fl.turn(T:Fl U L)(h:gt a o o' L L'):Fl (U.put a o') L' :=by
 refine ⟨λ p hp=>?_,h.keys▸T.nd⟩
 rcases h.of T.nd p hp with rfl | ⟨h1,h2⟩
 ·exact AH.get_put_self _ _ _
 ·exact af (AH.get_put_ne h2) (T.xt p h1)
theorem r_:∀(fs:List (Str×Value)) (x:Str) (v:Value),nsLook x fs=none->je fs x v=fs++[(x,v)]
 | [],x,v,_=>rfl
 | (k,w)::r,x,v,h=>by
  unfold nsLook at h
  unfold je
  split at h
  ·exact (gY h).elim
  ·rename_i e
   exact af (if_neg e) (ah (r_ r x v h) rfl)
end
section
variable{C:Cx}{F:c_}{n:Nat}{m:Str->Option Value}{U U' :AH}{X:Sx}{A A' :Ad}{S S' :SS}{me ns:Addr}{E E' :List (Addr×aT)}
end
end
section
section
variable{C:Cx}{F:c_}{n:Nat}{m:Str->Option Value}{U U' :AH}{X:Sx}{A A' :Ad}{S S' :SS}{me ns:Addr}{E E' :List (Addr×aT)}
noncomputable def J6:Option Value->Option Str
 | some (.str x _)=>some x
 | _=>none
noncomputable def Fx(K:Frag)(c:Value)(i:Nat):Option Value:=match c with
 | .ref a=>match ((K.lookup a).map (λ(o:Obj)=>o.data):Option Data) with
  | some (m9 vs)=>vs[i]?
  | _=>none
 | _=>none
noncomputable def qG(K:Frag)(f:Addr):Option Str:=match ((K.lookup f).map (λ(o:Obj)=>o.data):Option Data) with
 | some (Data.func fd)=>J6 (Fx K fd.code 2)
 | _=>none
structure Dr(X:Sx):Prop where
 file:qG (KK X.w.params) 118=some (X.prog.main.file:Str)
 top:(X.prog.main.scope.names.lookup ("super":Str)).isSome=false
structure Hp(S:SS)(ls:List Int)(P:SS->Prop):Prop where
 tr:Tr S
 lock:S.lock=none
 len:ls.length<60
 rng:∀l∈ls,-1000<=l/\l<=1000
 b1:S.log.length<90000
 b2:S.rows.length<90000
 b3:Wz S 80000
 b4:S.row.length<90000
 no:¬ls.Pairwise (λ x y=>y≠-x)->P (fk S ls)
 yes:ls.Pairwise (λ x y=>y≠-x)->∀c,t4 ls c->P (Dn (fk S ls) c)
noncomputable def ib(many:Nat):SS:={known:=[],heights:=[],causes:=[],row:=[],begins:=[],seen:=0,liked:=[],rows:=[],watch:=[],heats:=(cV many).map λ(i:Nat)=>((i:Int)+1,(0:Int)),gain:=1,log:=[],refuted:=false,blamed:=[],clashes:=0,limit:=0,lock:=none}
noncomputable abbrev Kn(me ns K H Cs Rw B Lk Rs Wt Ht Lg Bl:Addr):Ad
 | .self=>me
 | .ns=>ns
 | .known=>K
 | .heights=>H
 | .causes=>Cs
 | .row=>Rw
 | .begins=>B
 | .liked=>Lk
 | .rows=>Rs
 | .watching=>Wt
 | .heats=>Ht
 | .log=>Lg
 | .blamed=>Bl
 | _=>me
theorem Fo(hm:many<=900):mM (ib many):=by
 have hn:∀{α:Type},Kv ([]:List (Int×α)):=λ{α}=>⟨.nil,λ k h=>by cases h⟩
 refine ⟨hn,hn,hn,hn,⟨?_,λ k hk=>?_⟩,⟨.nil,λ k h=>by cases h⟩,bb _,bb _,bb _,bb _,λ l h=>by cases h⟩
 ·refine ((ah bC ?_):(((cV many).map λ(i:Nat)=>((i:Int)+1,(0:Int))).map (·.1)).Nodup)
  unfold gX
  exact io cY ((List.nodup_range (n:=many)).imp λ h e=>h (by have:((_:Nat):Int)+1=((_:Nat):Int)+1:=e;lia))
 ·have hk' :k∈((cV many).map λ(i:Nat)=>((i:Int)+1,(0:Int))).map (·.1):=hk
  replace hk' :=bC▸hk'
  (try clear hk);refine aM (aJ.mp hk') λ i hi QI=>?_;subst QI
  have:=cE.mp hi
  refine (?_:0<=(i:Int)+1/\(i:Int)+1<=1000)
  exact Ku this hm
end
end
section
theorem Tr.true_(T:Tr S)(h:l∈S.row):says S l=some true:=by
 unfold says;refine ah (T.at_ h) ?_;simp
theorem natAbs_eq(h:a.natAbs=b.natAbs):a=b\/a=-b:=vZ.mp h
theorem Tr.false_(T:Tr S)(h0:l≠0)(h:-l∈S.row):says S l=some false:=by
 unfold says
 have:=T.at_ h
 replace this:=(bO ..)▸this
 refine ah this ?_
 by_cases hp:l>0
 ·simp [hp];exact xV hp
 ·simp [hp];exact ny.mpr ⟨o6.mp hp,h0⟩
theorem Tr.cases(T:Tr S)(h0:l≠0):(says S l=some true/\l∈S.row)\/(says S l=some false/\-l∈S.row)\/(says S l=none/\l∉S.row/\-l∉S.row):=by
 by_cases h1:l∈S.row
 ·exact .inl ⟨T.true_ h1,h1⟩
 by_cases h2:-l∈S.row
 ·exact .inr (.inl ⟨T.false_ h0 h2,h2⟩)
 refine .inr (.inr ⟨?_,h1,h2⟩)
 unfold says
 (try clear h0);cases e:lk S.known l.natAbs with
 | none=>rfl
 | some b=>
  (try clear h0);refine c9 ((T.kn _ _).mp e) λ x hx e1 e2=>?_
  have:x.natAbs=l.natAbs:=by exact_mod_cast e1
  clear e e1 e2;rcases natAbs_eq this with rfl | rfl
  ·exact absurd hx h1
  ·exact absurd hx h2
theorem Tr.mem_true(T:Tr S)(h0:l≠0):says S l=some true↔l∈S.row:=by
 rcases T.cases h0 with ⟨a,b⟩ | ⟨a,b⟩ | ⟨a,b,c⟩
 ·exact ⟨λ V=>b,λ V=>a⟩
 ·exact ⟨λ h=>(by replace h:=a▸h;have QI:=sI h;clear h;exact (ze QI).elim),λ h=>T.true_ h⟩
 ·exact ⟨λ h=>(by replace h:=a▸h;exact (bw h).elim),λ h=>absurd h b⟩
theorem Tr.mem_false(T:Tr S)(h0:l≠0):says S l=some false↔-l∈S.row:=by
 rcases T.cases h0 with ⟨a,b⟩ | ⟨a,b⟩ | ⟨a,b,c⟩
 ·exact ⟨λ h=>(by replace h:=a▸h;have QL:=sI h;clear h;exact (jD QL).elim),λ h=>T.false_ h0 h⟩
 ·exact ⟨λ V=>b,λ V=>a⟩
 ·exact ⟨λ h=>(by replace h:=a▸h;exact (bw h).elim),λ h=>absurd h c⟩
theorem Tr.not_both(T:Tr S)(h0:l≠0)(h1:l∈S.row)(h2:-l∈S.row):False:=by
 have a:=T.true_ h1
 replace a:=T.false_ h0 h2▸a;have QT:=sI a;clear a;exact (ze QT).elim
theorem Tr.inj(T:Tr S){i j:Nat}(hi:S.row[i]? =some x)(hj:S.row[j]? =some y)(h:x.natAbs=y.natAbs):i=j:=by
 have hi' :(S.row.map bB)[i]? =some x.natAbs:=af ay (ah hi rfl)
 have hj' :(S.row.map bB)[j]? =some y.natAbs:=af ay (ah hj rfl)
 have hl:i<(S.row.map bB).length:=(ag.mp hi').1
 exact (D_ hl T.nd).mp (af hi' (ah hj' (ah h rfl)))
theorem Tr.let_(T:Tr S)(h:says S l=none):Tr (j8 S l c):=by
 have hn:lk S.known l.natAbs=none:=by
  unfold says at h
  cases e:lk S.known l.natAbs with
  | none=>rfl
  | some b=>replace h:=e▸h;exact (gY h).elim
 have hnot:∀x∈S.row,x.natAbs≠l.natAbs:=λ x hx e=>by
  have:=T.at_ hx
  replace this:=hn▸e▸this;exact (bw this).elim
 refine ⟨?_,λ v b=>?_⟩
 ·refine ((ah aD (io c8 (du T.nd (by simp) (λ a ha b hb=>(aM (aJ.mp ha) λ x hx QW=>?_))))):((S.row++[l]).map bB).Nodup);subst QW
  exact ah (al.mp hb) (hnot x hx)
 ·refine ((ah (eB ..) ?_):lk (ins S.known l.natAbs (decide (l>0))) v=some b↔∃x∈S.row++[l],_)
  constructor
  ·intro e
   split at e
   ·rename_i hv
    have QY:=sI e;clear e;subst QY
    exact fW l (by simp) hv.symm rfl
   ·exact c9 ((T.kn v b).mp e) λ x hx e1 e2=>(fW x (ak _ hx) e1 e2)
  ·intro Rb;refine c9 Rb λ x hx e1 e2=>?_;clear Rb
   rcases aw.mp hx with hx | hx
   ·have hv:¬v=(l.natAbs:Int):=λ e=>hnot x hx (by exact_mod_cast e1.trans e)
    exact af (if_neg hv) ((T.kn v b).mpr ⟨x,hx,e1,e2⟩)
   ·rw [al.mp hx] at e1 e2
    exact af (if_pos e1.symm) (ah e2 rfl)
noncomputable def eG(bs:List Nat)(i:Nat):Nat:=(bs.filter λ b=>decide (b<=i)).length
theorem mr(h:∀b∈bs,b<=i):eG bs i=bs.length:=by
 unfold eG
 exact ah (gH.mpr λ b hb=>decide_eq_true (h b hb)) rfl
theorem oN(bs:List Nat)(i:Nat):eG bs i<=bs.length:=eU _ _
theorem jh(as bs:List Nat)(i:Nat):eG (as++bs) i=eG as i+eG bs i:=by unfold eG;exact ah (cN ..) (af av rfl)
theorem nQ(h:∀b∈bs,i<b):eG bs i=0:=by
 unfold eG
 exact ah (fL.mpr λ b hb=>by have:=h b hb;simp;exact this) rfl
theorem jg(hs:bs.Pairwise (·<=·))(hb:bs[k]? =some b)(hi:i<b):eG (bs.take k) i=eG bs i:=by
 conv=>rhs;rw [<-mO k bs,jh]
 rewrite [nQ (bs:=bs.drop k),jG]
 ·rfl
 intro x hx
 refine aS (aK.mp hx) λ j hj=>?_
 replace hj:=List.getElem?_drop▸hj
 rcases dX j with rfl | Vr
 ·replace hj:=hb▸(jG ..)▸hj;(try clear hb);have Q8:=sI hj;clear hj;subst Q8;exact hi
 ·have:=(da.mp hs) k (k+j) (ag.mp hb).1 (ag.mp hj).1 (au (b_ (bn _)) (gK Vr _))
  replace this:=(ag.mp hj).2▸(ag.mp hb).2▸this
  exact aq hi this
theorem nR(h:i<=j):eG bs i<=eG bs j:=by
 unfold eG
 induction bs with
 | nil=>exact az _
 | cons b bs ih=>
  refine ah bG (ah bG ?_)
  by_cases h1:b<=i
  ·have h2:b<=j:=ac h1 h
   simp [h1,h2];exact ih
  ·by_cases h2:b<=j
   ·simp [h1,h2];exact ac ih (aB _ _)
   ·simp [h1,h2];exact ih
theorem B4(hs:bs.Pairwise (·<=·))(hb:bs[k]? =some b)(hi:b<=i):k+1<=eG bs i:=by
 conv=>rhs;rw [<-mO (k+1) bs,jh]
 have:eG (bs.take (k+1)) i=(bs.take (k+1)).length:=mr λ x hx=>by
  refine aS (aK.mp hx) λ j hj=>?_
  replace hj:=bv▸hj
  split at hj
  ·rename_i hjk
   (try clear hx);rcases cx j k with h | h
   ·have:=(da.mp hs) j k (ag.mp hj).1 (ag.mp hb).1 h
    replace this:=(ag.mp hj).2▸(ag.mp hb).2▸this
    exact ac this hi
   ·have:j=k:=bx (b_ hjk) h
    clear h hjk;subst this;replace hj:=hb▸hj;(try clear hb);have Rc:=sI hj;clear hj;subst Rc;exact hi
  ·exact (bw hj).elim
 refine ah this (ah ce ?_)
 have:=(ag.mp hb).1
 exact Ly this
theorem wS(hs:bs.Pairwise (·<=·))(hb:bs[k]? =some b)(hi:i<b):eG bs i<=k:=dI (jg hs hb hi) (ac (oN _ _) (ah ce (jw _ _)))
end
section
structure kt(N:Nat)(S:SS):Prop where
 tr:Tr S
 var:∀l∈S.row,1<=l.natAbs/\l.natAbs<=N
 bs:S.begins.Pairwise (·<=·)
 be:∀b∈S.begins,b<=S.row.length
 ht:∀(i:Nat) (l:Int),S.row[i]? =some l->lk S.heights l.natAbs=some (eG S.begins i)
 ca:∀(i:Nat) (l:Int),S.row[i]? =some l->∃o:Option Nat,lk S.causes l.natAbs=some o/\(∀c,o=some c->∃r,S.rows[c]? =some r/\l∈r/\∀x∈r,x≠l->-x∈S.row.take i)/\(i∈S.begins->o=none)/\(i∉S.begins->0<eG S.begins i->∃c,o=some c)
theorem kt.turn(T:kt N S)(e1:S'.known=S.known)(e2:S'.heights=S.heights)(e3:S'.causes=S.causes)(e4:S'.row=S.row)(e5:S'.begins=S.begins)
  (h:∀(c:Nat) (r:List Int),S.rows[c]? =some r->∃r',S'.rows[c]? =some r' /\∀x,x∈r' ↔x∈r):kt N S' :=by
 obtain ⟨t,v,b1,b2,h1,h2⟩:=T
 refine ⟨⟨ah e4 t.nd,ah e1 (ah e4 t.kn)⟩,ah e4 v,ah e5 b1,ah e4 (ah e5 b2),ah e4 (ah e2 (ah e5 h1)),?_⟩
 refine ah e4 (ah e3 (ah e5 ?_))
 intro i l hi
 exact nW (h2 i l hi) λ o q1 q2 q3 q4=>(pq o q1 (λ c hc=>(c9 (q2 c hc) λ r hr hl hx=>(aM (h c r hr) λ r' hr' he=>(fW r' hr' ((he l).mpr hl) (λ x hx' =>hx x ((he x).mp hx')))))) q3 q4)
theorem kt.len(T:kt N S):S.row.length<=N:=by
 have hn:(S.row.map λ l=>((l.natAbs:Int)-1)).Nodup:=by
  have:=T.tr.nd
  unfold gX at this⊢
  rw [cY] at this⊢
  exact this.imp λ h e=>h (Ct e)
 have:=gM N _ hn λ k hk=>by
  refine aM (aJ.mp hk) λ l hl QI=>?_;subst QI
  have:=T.var l hl;exact Cq this
 rwa [ae] at this
theorem df{α:Type}{xs ys:List α}(h:i<=xs.length):(xs++ys).take i=xs.take i:=List.take_append_of_le_length h
theorem kt.let_(T:kt N S)(hs:says S l=none)(hv:1<=l.natAbs/\l.natAbs<=N)
  (hc:∀k,c=some k->∃r,S.rows[k]? =some r/\l∈r/\∀x∈r,x≠l->-x∈S.row) (h1:S.row.length∈S.begins->c=none) (h2:S.row.length∉S.begins->S.begins≠[]->∃k,c=some k):kt N (j8 S l c):=by
 have htr:=T.tr.let_ (c:=c) hs
 have hlen:S.row.length<S.row.length+1:=bn _
 have hold:∀(i:Nat) (x:Int),S.row[i]? =some x->(x.natAbs:Int)≠l.natAbs:=λ i x hx e=>by
  have:=T.tr.at_ (am hx)
  unfold says at hs
  replace this:=e▸this
  replace hs:=this▸hs;exact (gY hs).elim
 have hrow:∀(i:Nat) (x:Int),(S.row++[l])[i]? =some x->S.row[i]? =some x\/(i=S.row.length/\x=l):=λ i x hx=>by
  rcases cx i S.row.length with h | h
  ·replace hx:=bN h▸hx;exact .inl hx
  ·replace hx:=bI h▸hx
   have:i-S.row.length=0:=by
    rcases dX (i-S.row.length) with h | h
    ·exact h
    ·rewrite [bt (by simp;exact bK h)] at hx;exact (bw hx).elim
   replace hx:=this▸hx
   exact .inr ⟨JI h this,(aO hx).symm⟩
 refine ⟨htr,λ x hx=>?_,T.bs,λ b hb=>?_,λ i x hx=>?_,λ i x hx=>?_⟩
 ·rcases aw.mp hx with h | h
  ·exact T.var x h
  ·exact ah (al.mp h) hv
 ·refine ((ah av (ah aG ?_)):b<=(S.row++[l]).length);have:=T.be b hb;exact ac this (aB _ _)
 ·refine ((af (eB ..) ?_):lk (ins S.heights l.natAbs S.begins.length) x.natAbs=some (eG S.begins i))
  clear hc hs htr hv;rcases hrow i x hx with h | ⟨rfl,rfl⟩
  ·exact af (if_neg (hold i x h)) (T.ht i x h)
  ·exact af (if_pos rfl) (ah (mr T.be) rfl)
 ·refine ((ah (eB ..) ?_):∃o,lk (ins S.causes l.natAbs c) x.natAbs=some o/\_)
  clear hs htr hv;rcases hrow i x hx with h | ⟨rfl,rfl⟩
  ·exact ah (if_neg (hold i x h)) (nW (T.ca i x h) λ o q1 q2 q3 q4=>(pq o q1 (λ k hk=>(c9 (q2 k hk) λ r hr hl hy=>(fW r hr hl (λ y T9 hne=>(((ah (df (aP (ag.mp h).1)) (hy y T9 hne)):-y∈(S.row++[l]).take i)))))) q3 q4))
  ·refine ah (if_pos rfl) (pq c rfl (λ k hk=>?_) h1 (λ hn hp=>h2 hn λ e=>?_))
   ·exact c9 (hc k hk) λ r hr hl hy=>(fW r hr hl (λ y T9 hne=>(((ah (df (az _)) (ah aX (hy y T9 hne))):-y∈(S.row++[x]).take S.row.length))))
   ·have hp' :0<eG S.begins S.row.length:=hp
    replace hp' :=e▸hp';exact absurd hp' (by simp [eG])
theorem kt.begin_(T:kt N S):kt N (S.uBegins (S.begins++[S.row.length])):=by
 have hlev:∀i,i<S.row.length->eG (S.begins++[S.row.length]) i=eG S.begins i:=λ i hi=>af (jh ..) (ah (nQ (bs:=[S.row.length]) (λ b hb=>ah (al.mp hb) hi)) (af (jG ..) rfl))
 refine ⟨⟨T.tr.nd,T.tr.kn⟩,T.var,?_,λ b hb=>?_,λ i l hi=>?_,λ i l hi=>?_⟩
 ·exact ((io m5 (du T.bs (lm _ _) (λ a ha b hb=>ah (al.mp hb) (T.be a ha)))):(S.begins++[S.row.length]).Pairwise _)
 ·rcases aw.mp hb with h | h
  ·exact T.be b h
  ·exact ah (al.mp h) (az _)
 ·exact ((ah (hlev i (ag.mp hi).1) (T.ht i l hi)):lk S.heights _=some (eG (S.begins++[S.row.length]) i))
 ·have hlt:=(ag.mp hi).1
  refine nW (T.ca i l hi) λ o q1 q2 q3 q4=>?_
  have hlt' :i<S.row.length:=hlt
  have hm:i∈S.begins++[S.row.length]↔i∈S.begins:=io aw (io al ⟨λ h=>h.elim id λ e=>absurd (bu hlt' e) (by decide),.inl⟩)
  refine pq o q1 q2 (λ h=>q3 (hm.mp h)) (λ h h' =>q4 (λ q=>h (hm.mpr q)) ?_)
  have:eG (S.begins++[S.row.length]) i=eG S.begins i:=hlev i hlt
  exact dI this h'
theorem wI(k:Nat)(S:SS):(gS k S).heights=S.heights/\(gS k S).causes=S.causes/\(gS k S).begins=S.begins/\(gS k S).rows=S.rows/\(gS k S).watch=S.watch:=lh (gJ k S) λ V V V e=>(ah e (pt rfl rfl rfl rfl rfl))
theorem kg(hb:S.begins[k]? =some b)(hle:b<=S.row.length):(bT S k).row=S.row.take b/\(bT S k).begins=S.begins.take k/\(bT S k).seen=b/\(bT S k).heights=S.heights/\(bT S k).causes=S.causes/\(bT S k).rows=S.rows/\(bT S k).watch=S.watch:=by
 unfold bT
 refine ah hb (sx (wI (S.row.length-b) S) λ q1 q2 q3 q4 q5=>?_)
 have hr:(gS (S.row.length-b) S).row=S.row.take b:=af (nL ..) (ah (Nat.sub_sub_self hle) rfl)
 exact LN hr rfl (((ah hr (af ce (af (dz hle) rfl))):(gS _ S).row.length=b)) q1 q2 q4 q5
theorem kt.back(T:kt N S)(k:Nat):kt N (bT S k):=by
 cases hb:S.begins[k]? with
 | none=>exact ah (jp hb) T
 | some b=>
  have hle:=T.be b (am hb)
  refine sw (kg hb hle) λ e1 e2 e3 e4 e5 e6 e7=>?_
  have htr:Tr (bT S k):=by
   have h:=sZ (S.row.length-b) T.tr
   have hkn:(bT S k).known=(gS (S.row.length-b) S).known:=by unfold bT;exact ah hb rfl
   have hrw:(bT S k).row=(gS (S.row.length-b) S).row:=by unfold bT;exact ah hb rfl
   exact ⟨ah hrw h.nd,ah hkn (ah hrw h.kn)⟩
  have hrow:∀(i:Nat) (l:Int),(S.row.take b)[i]? =some l->S.row[i]? =some l/\i<b:=λ i l h=>by
   replace h:=bv▸h
   split at h
   ·exact ⟨h,by assumption⟩
   ·exact (bw h).elim
  have hmem:∀i,i<b->(i∈S.begins.take k↔i∈S.begins):=λ i hi=>by
   refine ⟨λ h=>bU _ _ h,λ h=>?_⟩
   clear e1 e2 e3 e4 e5 e6 e7 hle hrow htr;refine aS (aK.mp h) λ j hj=>?_
   have hjk:j<k:=by
    refine GH λ W7=>?_
    have TQ:=(ag.mp hj)
    have hb1:=(ag.mp hb)
    rcases cx k j with h' | h'
    ·have:=(da.mp T.bs) k j hb1.1 TQ.1 h'
     replace this:=TQ.2▸hb1.2▸this;exact dq (aq hi this) rfl
    ·have:j=k:=bx h' W7
     clear h' hb1 W7;subst this;replace hj:=hb▸hj;clear hb;have QL:=sI hj;clear hj;subst QL;exact bP _ hi
   exact aK.mpr ⟨j,af bv (af (if_pos hjk) hj)⟩
  refine ⟨htr,?_,?_,?_,?_,?_⟩
  ·exact ah e1 (λ l hl=>T.var l (bU _ _ hl))
  ·exact ah e2 (T.bs.sublist (il _ _))
  ·refine ah e1 (ah e2 (ah ce ?_))
   intro x hx
   refine aS (aK.mp hx) λ j hj=>?_
   replace hj:=bv▸hj
   split at hj
   ·rename_i hjk
    have TQ:=(ag.mp hj)
    have hb1:=(ag.mp hb)
    have:=(da.mp T.bs) j k TQ.1 hb1.1 hjk
    replace this:=TQ.2▸hb1.2▸this
    exact ud.mpr ⟨this,ac this hle⟩
   ·exact (bw hj).elim
  ·refine ah e1 (ah e2 (ah e4 ?_))
   intro i l hi
   exact aU (hrow i l hi) λ h1 h2=>(ah (jg T.bs hb h2) (T.ht i l h1))
  ·refine ah e1 (ah e2 (ah e5 (ah e6 ?_)))
   intro i l hi
   exact aU (hrow i l hi) λ h1 h2=>(nW (T.ca i l h1) λ o q1 q2 q3 q4=>(pq o q1 (λ c hc=>(c9 (q2 c hc) λ r hr hl hx=>(fW r hr hl (λ x hx' hne=>(ah ik (ah (dz (aP h2)) (hx x hx' hne))))))) (λ h=>q3 ((hmem i h2).mp h)) (λ h h' =>q4 (λ q=>h ((hmem i h2).mpr q)) (by replace h' :=jg T.bs hb h2▸h';exact h'))))
end
section
noncomputable def wl(S:SS)(l:Int):List Nat:=(lk S.watch l).getD []
noncomputable def wp(S:SS)(lost:Int)(Sh:List Nat)(l:Int):List Nat:=wl S l++(if l=lost then Sh else [])
noncomputable def Good(N:Nat)(r:List Int):Prop:=2<=r.length/\(r.map bB).Nodup/\∀l∈r,1<=l.natAbs/\l.natAbs<=N
structure l4(N:Nat)(S:SS)(lost:Int)(Sh:List Nat):Prop where
 w1:∀(i:Nat) (r:List Int),S.rows[i]? =some r->Good N r
 w2:∀l,(wp S lost Sh l).Nodup
 w3:∀l i,i∈wp S lost Sh l↔∃r,S.rows[i]? =some r/\(r[0]? =some l\/r[1]? =some l)
theorem iM(S:SS)(lost l:Int):wp S lost [] l=wl S l:=by unfold wp;refine eH (λ V=>?_) λ V=>?_<;>simp
theorem l4.any(W:l4 N S lost [])(lost' :Int):l4 N S lost' []:=⟨W.w1,λ l=>by refine ah (iM ..) ?_;rewrite [<-iM S lost];exact W.w2 l,λ l i=>by refine ah (iM ..) ?_;rewrite [<-iM S lost];exact W.w3 l i⟩
theorem l4.same(W:l4 N S lost Sh)(e1:S'.rows=S.rows)(e2:S'.watch=S.watch):l4 N S' lost Sh:=by
 have:∀l,wp S' lost Sh l=wp S lost Sh l:=λ l=>by unfold wp wl;exact ah e2 rfl
 exact ⟨ah e1 W.w1,λ l=>ah (this ..) (W.w2 l),λ l i=>ah (this ..) (ah e1 (W.w3 l i))⟩
theorem nI(S:SS)(l:Int)(k:Nat)(x:Int):wl (fz S l k) x=if x=l then wl S l++[k] else wl S x:=by
 refine ((ah (eB ..) ?_):(lk (ins S.watch l _) x).getD []=_)
 split at⊢<;>rfl
theorem A_(S:SS)(l x:Int):wl (uQ S l) x=if x=-l then [] else wl S x:=by
 refine ((ah (eB ..) (ah (nc ..) ?_)):(lk (ins (del S.watch (-l)) (-l) []) x).getD []=_)
 split at⊢<;>rfl
theorem l4.open_(W:l4 N S lost []):l4 N (uQ S l) (-l) (wl S (-l)):=by
 have e:∀x,wp (uQ S l) (-l) (wl S (-l)) x=wp S lost [] x:=λ x=>by
  refine ah (iM ..) ?_
  unfold wp
  refine ah (A_ ..) ?_
  split at⊢
  ·rename_i h;exact ah h rfl
  ·simp
 exact ⟨W.w1,λ x=>ah (e ..) (W.w2 x),λ x i=>ah (e ..) (W.w3 x i)⟩
theorem ss:cJ (x::y::t) lost=if x=lost then y::lost::t else x::y::t:=by unfold cJ;simp
theorem ng(hg:Good N r)(h:r[0]? =some lost\/r[1]? =some lost):∃a t,cJ r lost=a::lost::t/\(a::lost::t).Perm r/\∀l,((r[0]? =some l\/r[1]? =some l)↔(l=a\/l=lost)):=by
 match r,hg.1,h with
 | x::y::t,_,h=>
  refine ah ss ?_
  by_cases e:x=lost
  ·(try clear h);subst e
   refine lc y t (if_pos rfl) (.swap _ _ _) (λ l=>?_)
   simp only [lp,fx,i8]
   exact ⟨λ h=>h.elim (λ e=> .inr e.symm) (λ e=> .inl e.symm),λ h=>h.elim (λ e=> .inr e.symm) (λ e=> .inl e.symm)⟩
  ·have hy:y=lost:=by
    simp only [lp,fx,i8] at h
    exact h.resolve_left e
   (try clear h);subst hy
   refine lc x t (if_neg e) (.refl _) (λ l=>?_)
   simp only [lp,fx,i8]
   exact ⟨λ h=>h.elim (λ e=> .inl e.symm) (λ e=> .inr e.symm),λ h=>h.elim (λ e=> .inl e.symm) (λ e=> .inr e.symm)⟩
theorem Good.perm(h:Good N r)(p:r'.Perm r):Good N r' :=⟨ah p.length_eq (h.1),((p.map bB).nodup_iff).mpr h.2.1,λ l hl=>h.2.2 l (p.mem_iff.mp hl)⟩
theorem Good.ne(h:Good N r){i j:Nat}(hi:r[i]? =some x)(hj:r[j]? =some y)(X8:i≠j):x.natAbs≠y.natAbs:=λ e=>by
 have hi' :(r.map bB)[i]? =some x.natAbs:=af ay (ah hi rfl)
 have hj' :(r.map bB)[j]? =some y.natAbs:=af ay (ah hj rfl)
 exact X8 ((D_ (ag.mp hi').1 h.2.1).mp (af hi' (ah hj' (ah e rfl))))
theorem fU{S:SS}(hr:S.rows[i]? =some r)(j:Nat):(S.rows.set i r')[j]? =if j=i then some r' else S.rows[j]? :=by
 have hl:=(ag.mp hr).1
 by_cases e:j=i
 ·(try clear hr);subst e;exact ah (if_pos rfl) (af (dc hl) rfl)
 ·exact ah (if_neg e) (af (m7 (gk e)) rfl)
theorem l4.stay{i:Nat}{p:List Nat}{r:List Int}(W:l4 N S lost (i::p))(hr:S.rows[i]? =some r):l4 N (fz (S.uRows (S.rows.set i (cJ r lost))) lost i) lost p:=by
 have hi:r[0]? =some lost\/r[1]? =some lost:=by
  refine aM ((W.w3 lost i).mp (by unfold wp;exact ah (if_pos rfl) (ai _ (.head _)))) λ QX h1 h2=>?_
  replace h1:=hr▸h1;(try clear hr);have QI:=sI h1;clear h1;subst QI;exact h2
 refine jl (ng (W.w1 i r hr) hi) λ a t e hp hw=>?_
 have he:∀l,wp (fz (S.uRows (S.rows.set i (cJ r lost))) lost i) lost p l=wp S lost (i::p) l:=λ l=>by
  unfold wp
  refine ah (nI ..) ?_
  by_cases h:l=lost
  ·exact ah (if_pos h) (ah (if_pos h) (ah (if_pos h) (ah h (((af (dp ..) rfl):(wl S lost++[i])++p=wl S lost++i::p)))))
  ·exact ah (if_neg h) (ah (if_neg h) (ah (if_neg h) rfl))
 refine ⟨λ j QX h=>?_,λ l=>ah (he ..) (W.w2 l),λ l j=>?_⟩
 ·have h' :(S.rows.set i (cJ r lost))[j]? =some QX:=h
  rewrite [fU hr] at h'
  split at h'
  ·(try clear h);have QL:=sI h';clear h';subst QL;exact ah e ((W.w1 i r hr).perm hp)
  ·exact W.w1 j QX h'
 ·refine ah (he ..) (io (W.w3 l j) (?_:_↔∃QX,(S.rows.set i (cJ r lost))[j]? =some QX/\_))
  rewrite [fU hr]
  by_cases h:j=i
  ·clear W he hi hp;subst h
   refine ah (if_pos rfl) (ah hr (ah e ?_))
   constructor
   ·clear e hr;intro QT;refine aM QT λ QX h1 h2=>?_;clear QT;have QW:=sI h1;clear h1;subst QW
    refine cC _ rfl ?_
    rcases (hw l).mp h2 with rfl | rfl
    ·exact .inl rfl
    ·exact .inr rfl
   ·intro QY;refine aM QY λ QX h1 h2=>?_;clear QY;have Rb:=sI h1;clear h1;subst Rb
    refine cC _ rfl ((hw l).mpr ?_)
    rcases h2 with h2 | h2
    ·exact .inl (aO h2).symm
    ·exact .inr (aO h2).symm
  ·rw [if_neg h]
theorem l4.move{N:Nat}{i k:Nat}{p:List Nat}{r:List Int}(W:l4 N S lost (i::p))(hr:S.rows[i]? =some r)(hk:2<=k)(hz:(cJ r lost)[k]? =some z):
  l4 N (fz (S.uRows (S.rows.set i (((cJ r lost).set 1 z).set k lost))) z i) lost p/\(((cJ r lost).set 1 z).set k lost).Perm r:=by
 have hi:r[0]? =some lost\/r[1]? =some lost:=by
  (try clear hz);refine aM ((W.w3 lost i).mp (by unfold wp;exact ah (if_pos rfl) (ai _ (.head _)))) λ QX h1 h2=>?_
  replace h1:=hr▸h1;clear hr;have Q8:=sI h1;clear h1;subst Q8;exact h2
 have hg:=W.w1 i r hr
 refine jl (ng hg hi) λ a t e hp hw=>?_
 rw [e] at hz⊢
 have hkl:=(ag.mp hz).1
 have Sv :=hg.perm hp
 have hza:z.natAbs≠a.natAbs:=Sv.ne hz (j:=0) rfl (dq (aP hk))
 have hzl:z.natAbs≠lost.natAbs:=Sv.ne hz (j:=1) rfl (dq hk)
 have hne1:z≠a:=λ q=>hza (ah q rfl)
 have hne2:z≠lost:=λ q=>hzl (ah q rfl)
 have hpm:(((a::lost::t).set 1 z).set k lost).Perm (a::lost::t):=by
  have h1:1<(a::lost::t).length:=by simp
  have:=List.set_set_perm (as:=a::lost::t) h1 hkl
  replace this:=(ag.mp hz).2▸this
  exact this
 have UQ:=hpm.trans hp
 refine ⟨?_,UQ⟩
 clear e hi hkl hp hpm hz hza hzl;obtain ⟨k',rfl⟩:∃k',k=k' +2:=⟨k-2,dE (ic hk)⟩
 have hr'' :((a::lost::t).set 1 z).set (k' +2) lost=a::z::t.set k' lost:=rfl
 rw [hr''] at UQ⊢
 have hiz:i∉wl S z:=λ h=>by
  clear hg UQ;refine aM ((W.w3 z i).mp (by unfold wp;exact ak _ h)) λ QX h1 h2=>?_
  replace h1:=hr▸h1;clear hr;have Rc:=sI h1;clear h1;subst Rc
  rcases (hw z).mp h2 with q | q
  ·exact hne1 q
  ·exact hne2 q
 have hip:i∉wl S lost++p:=λ h=>by
  have:=W.w2 lost
  unfold wp at this
  replace this:=if_pos rfl▸this;rewrite [c8] at this
  refine cu this λ q1 q2 q3=>?_;clear this
  rcases aw.mp h with h | h
  ·exact q3 i h i (.head _) rfl
  ·exact (bp.mp q2).1 h
 have he:∀l,wp (fz (S.uRows (S.rows.set i (a::z::t.set k' lost))) z i) lost p l=if l=z then wl S z++[i] else if l=lost then wl S lost++p else wl S l:=λ l=>by
  unfold wp
  refine ah (nI ..) ?_
  by_cases h:l=z
  ·refine ah (if_pos h) (ah (if_pos h) (ah (if_neg (by exact ah h hne2)) (af (dh ..) ?_)));rfl
  ·refine ah (if_neg h) (ah (if_neg h) ?_)
   by_cases h' :l=lost
   ·exact ah (if_pos h') (ah (if_pos h') (ah h' rfl))
   ·exact ah (if_neg h') (ah (if_neg h') (af (dh ..) rfl))
 have old:∀l,l≠lost->wp S lost (i::p) l=wl S l:=λ l h=>by unfold wp;exact ah (if_neg h) (af (dh ..) rfl)
 have oldL:wp S lost (i::p) lost=wl S lost++i::p:=by unfold wp;exact ah (if_pos rfl) rfl
 refine ⟨λ j QX h=>?_,λ l=>?_,λ l j=>?_⟩
 ·have h' :(S.rows.set i _)[j]? =some QX:=h
  rewrite [fU hr] at h'
  split at h'
  ·(try clear h);have Rp:=sI h';clear h';subst Rp;exact hg.perm UQ
  ·exact W.w1 j QX h'
 ·refine ah (he ..) (eH (λ V=>?_) λ V=>?_)
  ·have:=W.w2 z
   replace this:=old z hne2▸this
   exact c8.mpr ⟨this,by simp,λ x hx y hy=>ah (al.mp hy) (λ q=>hiz (q▸hx))⟩
  ·refine eH (λ V=>?_) λ h=>?_
   ·have:=W.w2 lost
    replace this:=oldL▸this
    exact this.sublist (Nb (.refl _) (bM _ _))
   ·exact dI (old l h) (W.w2 l)
 ·refine ah (he ..) (?_:_↔∃QX,(S.rows.set i _)[j]? =some QX/\_)
  rewrite [fU hr]
  by_cases hj:j=i
  ·clear he hg hiz hne1 hne2 UQ hr'' oldL;subst hj
   refine ah (if_pos rfl) ?_
   have hrhs:(∃QX,some (a::z::t.set k' lost)=some QX/\(QX[0]? =some l\/QX[1]? =some l))↔(l=a\/l=z):=by
    constructor
    ·intro Q7;refine aM Q7 λ QX h1 h2=>?_;clear Q7;have Rf:=sI h1;clear h1;subst Rf
     exact h2.elim (λ h=> .inl (aO h).symm) (λ h=> .inr (aO h).symm)
    ·clear Sv hw;rintro (rfl | rfl)
     ·exact cC _ rfl (.inl rfl)
     ·exact cC _ rfl (.inr rfl)
   refine io hrhs ?_
   by_cases h:l=z
   ·exact ah (if_pos h) ⟨λ V=> .inr h,λ V=>by simp⟩
   ·refine ah (if_neg h) ?_
    by_cases h' :l=lost
    ·refine ah (if_pos h') ⟨λ q=>absurd q hip,λ q=>?_⟩
     rcases q with q | q
     ·have:=Sv.ne (i:=0) (j:=1) (x:=a) (y:=lost) rfl rfl (by decide)
      exact absurd (dI q (ah h' rfl):a.natAbs=lost.natAbs) this
     ·exact absurd q h
    ·refine ah (if_neg h') (dI (old l h') (io (W.w3 l j) (ah hr ?_)))
     constructor
     ·clear hr;intro Rd;refine aM Rd λ QX h1 h2=>?_;clear Rd;have Rn:=sI h1;clear h1;subst Rn
      exact ((hw l).mp h2).elim .inl (λ q=>absurd q h')
     ·rintro (q | q)
      ·exact cC _ rfl ((hw l).mpr (.inl q))
      ·exact absurd q h
  ·refine ah (if_neg hj) ?_
   by_cases h:l=z
   ·refine ah (if_pos h) (io aw (io al (dI (old z hne2) (ah h ?_))));rewrite [<-W.w3 z j]
    exact ⟨λ q=>q.elim id λ q=>absurd q hj,.inl⟩
   ·refine ah (if_neg h) ?_
    by_cases h' :l=lost
    ·refine ah (if_pos h') (ah h' ?_);rewrite [<-W.w3 lost j];exact ah oldL (io aw (io aw (io aL ⟨λ q=>q.elim .inl λ q=> .inr (.inr q),λ q=>q.elim .inl λ q=>q.elim (λ q=>absurd q hj) .inr⟩)))
    ·exact ah (if_neg h') (dI (old l h') (W.w3 l j))
end
section
noncomputable def AR(w:Nat->Bool)(l:Int):Bool:=w l.natAbs==decide (l>0)
theorem sW{w:Nat->Bool}(h0:l≠0):AR w (-l)=!AR w l:=by
 unfold AR
 refine ah (bO ..) ?_
 by_cases h:l>0
 ·have:¬(-l>0):=o6.mpr (gV (xV h))
  simp only [h,this,decide_true,decide_false];cases w l.natAbs<;>rfl
 ·have:-l>0:=Int.neg_pos_of_neg (ny.mpr ⟨o6.mp h,h0⟩)
  simp only [h,this,decide_true,decide_false];cases w l.natAbs<;>rfl
noncomputable def clo(K:Int->Prop)(r:List Int):Prop:=∀l,(∀x∈r,x≠l->K (-x))->l∈r/\K l
noncomputable def MY(K:Int->Prop):Prop:=∀l,K l->K (-l)->False
noncomputable def Lw(w:Nat->Bool)(l:Int):Prop:=l≠0/\AR w l=true
theorem yG(w:Nat->Bool):MY (Lw w):=λ l a b=>by
 have:=b.2;replace this:=a.2▸sW a.1▸this;exact (jD this).elim
theorem DM{w:Nat->Bool}(h0:l≠0)(h:¬Lw w l):Lw w (-l):=by
 refine ⟨λ e=>h0 (rT.mp e),ah (sW h0) ?_⟩
 cases e:AR w l with
 | false=>rfl
 | true=>exact absurd ⟨h0,e⟩ h
theorem sB{w:Nat->Bool}{r:List Int}(h:∃x∈r,Lw w x):clo (Lw w) r:=λ l k=>by
 refine aM h λ x hx hk=>?_
 by_cases e:x=l
 ·exact e▸⟨hx,hk⟩
 ·exact (yG w x hk (k x hx e)).elim
theorem n0{K:Int->Prop}(c:MY K)(h:clo K r)(k:∀x∈r,K (-x)):False:=by
 have h1:=h 0 λ x hx V=>k x hx
 have h2:=h1.2
 exact c 0 h2 h2
theorem vq{K:Int->Prop}(p:r'.Perm r)(h:clo K r):clo K r' :=λ l k=>by
 have:=h l λ x hx e=>k x (p.mem_iff.mpr hx) e
 exact ⟨p.mem_iff.mpr this.1,this.2⟩
structure t3(W:(Int->Prop)->Prop)(S:SS):Prop where
 c0:∀K,W K->MY K
 c1:∀r∈S.rows,∀K,W K->clo K r
 c2:∀(i:Nat) (l:Int),S.row[i]? =some l->eG S.begins i=0->∀K,W K->K l
 c4:∀w,(∀r∈S.rows,∃x∈r,Lw w x)->(∀(i:Nat) (l:Int),S.row[i]? =some l->eG S.begins i=0->Lw w l)->W (Lw w)
structure v8(W:(Int->Prop)->Prop)(as:List Int)(S:SS):Prop where
 d1:∀(k:Nat) (a:Int) (b:Nat),as[k]? =some a->S.begins[k]? =some b->a∈S.row.take ((S.begins[k+1]?).getD S.row.length)
 d2:∀(i:Nat) (l:Int),S.row[i]? =some l->eG S.begins i<=as.length->∀K,W K->(∀a∈as,K a)->K l
 d3:∀(i:Nat) (l:Int),S.row[i]? =some l->i∈S.begins->eG S.begins i<=as.length->l∈as
structure Cr(N:Nat)(W:(Int->Prop)->Prop)(as:List Int)(S:SS):Prop where
 trl:kt N S
 snd:t3 W S
 asm:v8 W as S
noncomputable def og(S S' :SS):Prop:=S'.rows.length=S.rows.length/\∀(c:Nat) (r:List Int),S.rows[c]? =some r->∃r',S'.rows[c]? =some r' /\r'.Perm r
theorem og.mem(h:og S S')(hr:r' ∈S'.rows):∃r∈S.rows,r'.Perm r:=by
 refine aS (aK.mp hr) λ c hc=>?_
 have hl:=(ag.mp hc).1
 replace hl:=h.1▸hl
 (try clear hr);refine aM (h.2 c _ (aA hl)) λ UW h1 h2=>?_
 replace h1:=hc▸h1;clear hc;have QI:=sI h1;clear h1;subst QI
 exact cC _ (iL hl) h2
theorem og.mem'(h:og S S')(hr:r∈S.rows):∃r' ∈S'.rows,r'.Perm r:=aS (aK.mp hr) λ c hc=>(aM (h.2 c r hc) λ r' h1 h2=>(cC r' (am h1) h2))
theorem og.one(hr:S.rows[i]? =some r)(e:S'.rows=S.rows.set i r')(hp:r'.Perm r):og S S' :=by
 refine ⟨ah e (af bZ rfl),λ c q hq=>(ah e ?_)⟩;rewrite [fU hr]
 by_cases h:c=i
 ·(try clear e);subst h;replace hq:=hr▸hq;(try clear hr);have QL:=sI hq;clear hq;subst QL;exact cC r' (if_pos rfl) hp
 ·exact cC q (af (if_neg h) hq) (.refl _)
theorem Cr.turn{W:(Int->Prop)->Prop}(C:Cr N W as S)(e1:S'.known=S.known)(e2:S'.heights=S.heights)(e3:S'.causes=S.causes)(e4:S'.row=S.row)(e5:S'.begins=S.begins)(h:og S S'):Cr N W as S' :=by
 refine ⟨C.trl.turn e1 e2 e3 e4 e5 λ c r hc=>?_,⟨C.snd.c0,λ r hr w hw=>?_,ah e4 (ah e5 C.snd.c2),λ w h1 h2=>?_⟩,⟨ah e4 (ah e5 C.asm.d1),ah e4 (ah e5 C.asm.d2),ah e4 (ah e5 C.asm.d3)⟩⟩
 ·exact aM (h.2 c r hc) λ r' h1 h2=>(cC r' h1 (λ x=>h2.mem_iff))
 ·exact aM (h.mem hr) λ UW h1 h2=>vq h2 (C.snd.c1 UW h1 w hw)
 ·exact C.snd.c4 w (λ r hr=>(aM (h.mem' hr) λ r' h3 h4=>(aM (h1 r' h3) λ x hx hs=>(cC x (h4.mem_iff.mp hx) hs)))) (by replace h2:=e5▸e4▸h2;exact h2)
theorem Cr.force{W:(Int->Prop)->Prop}(C:Cr N W as S)(hs:says S l=none)(hv:1<=l.natAbs/\l.natAbs<=N)(hr:S.rows[c]? =some r)(hl:l∈r)(hx:∀x∈r,x≠l->-x∈S.row)
  (hb:∀b∈S.begins,b<S.row.length):Cr N W as (j8 S l (some c)):=by
 have T:=C.trl.let_ (c:=some c) hs hv (λ k hk=>by have QT:=sI hk;clear hk;subst QT;exact fW r hr hl hx) (λ h=>absurd (hb _ h) (bP _)) (λ V V=>⟨c,rfl⟩)
 have hrow:∀(i:Nat) (x:Int),(S.row++[l])[i]? =some x->S.row[i]? =some x\/(i=S.row.length/\x=l):=λ i x hx=>by
  rcases cx i S.row.length with h | h
  ·replace hx:=bN h▸hx;exact .inl hx
  ·replace hx:=bI h▸hx
   have:i-S.row.length=0:=by
    rcases dX (i-S.row.length) with h | h
    ·exact h
    ·rewrite [bt (by simp;exact bK h)] at hx;exact (bw hx).elim
   replace hx:=this▸hx
   exact .inr ⟨JI h this,(aO hx).symm⟩
 have hlast:eG S.begins S.row.length=S.begins.length:=mr C.trl.be
 have hforce:∀K,W K->(∀x∈r,x≠l->K (-x))->K l:=λ K hw hq=>(C.snd.c1 r (am hr) K hw l hq).2
 refine ⟨T,⟨C.snd.c0,C.snd.c1,λ i x hi h0 w hw=>?_,λ w h1 h2=>C.snd.c4 w h1 λ i x hi h0=>h2 i x ?_ h0⟩,⟨λ k a b ha hb' =>?_,λ i x hi hle w hw hA=>?_,λ i x hi hb2 hle=>(hrow i x hi).elim (λ h=>C.asm.d3 i x h hb2 hle) λ h=>absurd (hb _ hb2) (by rw [h.1];exact bP _)⟩⟩
 ·clear T hl hs hv;rcases hrow i x hi with h | ⟨rfl,rfl⟩
  ·exact C.snd.c2 i x h h0 w hw
  ·refine hforce w hw λ y hy hne=>(aS (aK.mp (hx y hy hne)) λ j hj=>(C.snd.c2 j _ hj ?_ w hw))
   have h0' :eG S.begins S.row.length=0:=h0
   have:=nR (bs:=S.begins) (aP (ag.mp hj).1)
   exact bx (xd h0' this) (ac (bb _) (bb _))
 ·exact ((af (bN (ag.mp hi).1) hi):(S.row++[l])[i]? =some x)
 ·have:=C.asm.d1 k a b ha hb'
  refine (?_:a∈(S.row++[l]).take ((S.begins[k+1]?).getD (S.row++[l]).length))
  cases e:S.begins[k+1]? with
  | none=>
   replace this:=e▸this
   exact ((ah aX (ak _ (bU _ _ this))):a∈(S.row++[l]).take (S.row++[l]).length)
  | some b' =>
   replace this:=e▸this
   exact ((ah (df (aP (hb b' (am e)))) this):a∈(S.row++[l]).take b')
 ·clear T hl hs hv;rcases hrow i x hi with h | ⟨rfl,rfl⟩
  ·exact C.asm.d2 i x h hle w hw hA
  ·refine hforce w hw λ y hy hne=>(aS (aK.mp (hx y hy hne)) λ j hj=>(C.asm.d2 j _ hj ?_ w hw hA))
   have h0' :eG S.begins S.row.length<=as.length:=hle
   have:=nR (bs:=S.begins) (aP (ag.mp hj).1)
   exact ac this h0'
theorem qA:∀{j a k:Nat},k_ S r a j=some k->a<=k/\k<a+j/\says S (r.getD k 0)≠some false
 | 0,a,k,h=>(bw h).elim
 | j+1,a,k,h=>by
  replace h:=(yn ..)▸h
  split at h
  ·rename_i hs;have QW:=sI h;clear h;subst QW;exact du (az _) (eh (aB _ _)) hs
  ·exact cu (qA h) λ h1 h2 h3=>(du (ac (aB _ _) h1) (aq h2 (aC (dL _ _ _))) h3)
theorem qB:∀{j a:Nat},k_ S r a j=none->∀k,a<=k->k<a+j->says S (r.getD k 0)=some false
 | 0,a,_,k,h1,h2=>absurd h2 (fp.mpr h1)
 | j+1,a,h,k,h1,h2=>by
  replace h:=(yn ..)▸h
  split at h
  ·exact (gY h).elim
  ·rename_i hs
   rcases cx a k with q | q
   ·exact qB h k (bK q) (yc (dL _ _ _) h2)
   ·have:k=a:=bx q h1
    clear h h1 h2 q;subst this
    exact wf.mp hs
theorem uV(hr:S.rows[i]? =some r):
  ((dB S i lost).2=true/\∃k z,2<=k/\(cJ r lost)[k]? =some z/\says S z≠some false/\says S ((cJ r lost).getD 0 0)≠some true/\(dB S i lost).1=fz (S.uRows (S.rows.set i (((cJ r lost).set 1 z).set k lost))) z i)\/
  ((dB S i lost).2=false/\(dB S i lost).1=(S.uRows (S.rows.set i (cJ r lost)))/\(says S ((cJ r lost).getD 0 0)=some true\/∀k,2<=k->k<r.length->says S ((cJ r lost).getD k 0)=some false)):=by
 have hd:S.rows.getD i []=r:=jj hr
 have SO:=nh r lost
 unfold dB
 refine ah hd ?_
 dsimp only
 refine eH (λ h=>?_) λ h=>?_
 ·exact .inr ⟨rfl,rfl,.inl h⟩
 ·cases hk:k_ S (cJ r lost) 2 ((cJ r lost).length-2) with
  | none=>exact .inr ⟨rfl,rfl,.inr λ k h1 h2=>qB hk k h1 (KO h2 SO)⟩
  | some k=>
   refine cu (qA hk) λ h1 h2 h3=>?_
   have hkl:k<(cJ r lost).length:=KN h1 h2
   have hz:=ji (cJ r lost) k hkl
   exact .inl ⟨rfl,k,_,h1,hz,h3,h,rfl⟩
end
section
noncomputable def ow(P Rw r:List Int):Prop:=∀x y,r[0]? =some x->r[1]? =some y->(-x∈P->y∈Rw)/\(-y∈P->x∈Rw)
theorem fm:ow P Rw (a::z::t)↔(-a∈P->z∈Rw)/\(-z∈P->a∈Rw):=by
 refine ⟨λ h=>h a z rfl rfl,λ h x y hx hy=>?_⟩
 have QI:=sI hx;clear hx;subst QI;have QL:=sI hy;clear hy;subst QL;exact h
theorem oT(h2:2<=r.length)(h:ow P Rw r):ow P Rw (cJ r lost):=by
 match r,h2 with
 | x::y::t,_=>
  refine ah ss (eH (λ e=>?_) λ V=>?_)
  ·subst e
   exact aU (fm.mp h) λ q1 q2=>(fm.mpr ⟨q2,q1⟩)
  ·exact h
theorem ow.mono(h:ow P Rw r)(hp:∀x∈P',x∈P)(hr:∀x∈Rw,x∈Rw'):ow P' Rw' r:=λ x y hx hy=>aU (h x y hx hy) λ q1 q2=>⟨λ m=>hr _ (q1 (hp _ m)),λ m=>hr _ (q2 (hp _ m))⟩
structure pS(S0 S:SS):Prop where
 begins:S.begins=S0.begins
 heats:S.heats=S0.heats
 lock:S.lock=S0.lock
 limit:S.limit=S0.limit
 clashes:S.clashes=S0.clashes
 refuted:S.refuted=S0.refuted
 log:S.log=S0.log
 blamed:S.blamed=S0.blamed
 rows:S.rows.length=S0.rows.length
 row:∃t,S.row=S0.row++t
theorem pS.refl(S:SS):pS S S:=⟨rfl,rfl,rfl,rfl,rfl,rfl,rfl,rfl,rfl,[],by simp⟩
structure JS(N:Nat)(W:(Int->Prop)->Prop)(as:List Int)(S0 S:SS):Prop where
 cr:Cr N W as S
 wt:l4 N S 0 []
 wi:∀(i:Nat) (r:List Int),S.rows[i]? =some r->ow (S.row.take S.seen) S.row r
 wb:∀b∈S.begins,∀(i:Nat) (r:List Int),S.rows[i]? =some r->ow (S.row.take b) (S.row.take b) r
 bs:∀b∈S.begins,b<=S.seen
 sl:S.seen<=S.row.length
 kp:pS S0 S
structure MS(N:Nat)(W:(Int->Prop)->Prop)(as:List Int)(S0 S:SS)(lost:Int)(ns:List Nat)(k:Nat):Prop where
 cr:Cr N W as S
 wt:l4 N S lost (ns.drop k)
 wi:∀(i:Nat) (r:List Int),S.rows[i]? =some r->ow (S.row.take (if i∈ns.drop k then S.seen-1 else S.seen)) S.row r
 wb:∀b∈S.begins,∀(i:Nat) (r:List Int),S.rows[i]? =some r->ow (S.row.take b) (S.row.take b) r
 bs:∀b∈S.begins,b+1<=S.seen
 s1:1<=S.seen
 sl:S.seen<=S.row.length
 lo:S.row[S.seen-1]? =some (-lost)
 nz:lost≠0
 nl:ns.length<=40000
 kp:pS S0 S
structure PS(N:Nat)(W:(Int->Prop)->Prop)(as:List Int)(S0 S:SS)(i:Nat):Prop where
 cr:Cr N W as S
 wt:l4 N S 0 []
 wb:∀b∈S.begins,∀(i:Nat) (r:List Int),S.rows[i]? =some r->ow (S.row.take b) (S.row.take b) r
 kp:pS S0 S
 cl:∃r,S.rows[i]? =some r/\(∀x∈r,-x∈S.row)/\∃(j:Nat) (l:Int),S.row[j]? =some l/\-l∈r/\eG S.begins j=S.begins.length
theorem ru{l:List Nat}(hn:l.Nodup)(h:∀i∈l,i<n):l.length<=n:=by
 have:=gM n (l.map λ(i:Nat)=>(i:Int)) (by
  unfold gX at hn⊢
  exact io cY (hn.imp λ h e=>h (by exact_mod_cast e))) λ k hk=>by
   refine aM (aJ.mp hk) λ i hi QT=>?_;subst QT
   have:=h i hi;exact bk (cS (bQ _) (bQ _)) (cM.mpr this)
 rwa [ae] at this
theorem l4.short(W:l4 N S lost p)(l:Int):(wp S lost p l).length<=S.rows.length:=
 ru (W.w2 l) λ i hi=>aM ((W.w3 l i).mp hi) λ r hr V=>((ag.mp hr).1)
theorem l4.wz(W:l4 N S lost p)(h:S.rows.length<=k):Wz S k:=λ l=>by
 have:=W.short l
 unfold wp at this
 replace this:=av▸this
 exact ((ac (ac (aB _ _) this) h):(wl S l).length<=k)
theorem l4.clash(W:l4 N S lost p):l4 N (qJ S lost p) 0 []:=by
 have e:∀l,wp (qJ S lost p) 0 [] l=wp S lost p l:=λ l=>by
  refine af (iM ..) (((ah (eB ..) ?_):(lk (ins S.watch lost _) l).getD []=_))
  unfold wp
  split at⊢
  ·rename_i h;(try clear W);subst h;rfl
  ·exact ah (dh ..) rfl
 exact ⟨W.w1,λ l=>ah (e ..) (W.w2 l),λ l i=>ah (e ..) (W.w3 l i)⟩
theorem zg{S:SS}(h1:1<=S.seen)(hl:S.row[S.seen-1]? =some (-lost))(h:x∈S.row.take S.seen):x∈S.row.take (S.seen-1)\/x=-lost:=by
 have:S.row.take S.seen=S.row.take (S.seen-1)++[-lost]:=by
  conv=>lhs;rw [show S.seen=S.seen-1+1 by exact dE (ic h1),ba,hl]
  rfl
 replace h:=this▸h
 rcases aw.mp h with h | h
 ·exact .inl h
 ·exact .inr (al.mp h)
theorem zr{N:Nat}{W:(Int->Prop)->Prop}(hN:N<=900)(hR:S0.rows.length<=40000):q8 (JS N W as S0) (MS N W as S0) (PS N W as S0) where
 leave S lost ns h:=by
  obtain ⟨cr,wt,wi,wb,bs,s1,sl,lo,nz,nl,kp⟩:=h
  rw [List.drop_length] at wt wi
  exact ⟨cr,wt.any 0,λ i r hr=>by have:=wi i r hr;rewrite [if_neg (by simp)] at this;exact this,wb,λ b hb=>by have:=bs b hb;exact ac (aB _ _) this,sl,kp⟩
 enter S l h hF hl:=by
  obtain ⟨cr,wt,wi,wb,bs,sl,kp⟩:=h
  have hw:=wt.wz (k:=40000) (ah kp.rows hR)
  have hlt:=(ag.mp hl).1
  have hlv:=cr.trl.var l (am hl)
  refine ⟨hw _,⟨cr.turn rfl rfl rfl rfl rfl ⟨rfl,λ c r h=>⟨r,h,.refl _⟩⟩,wt.open_,λ i r hr=>?_,wb,λ b hb=>cw (bs b hb),cw (bb _),hlt,?_,Pu hlv,hw _,⟨kp.begins,kp.heats,kp.lock,kp.limit,kp.clashes,kp.refuted,kp.log,kp.blamed,kp.rows,kp.row⟩⟩⟩
  ·have hr' :S.rows[i]? =some r:=hr
   refine ((ah HE ?_):ow (S.row.take (if i∈(wl S (-l)).drop 0 then S.seen+1-1 else S.seen+1)) S.row r)
   by_cases h:i∈wl S (-l)
   ·exact ah (if_pos h) (wi i r hr')
   ·refine ah (if_neg h) (λ x y hx hy=>(aU (wi i r hr' x y hx hy) λ q1 q2=>?_))
    have hno:∀u,(r[0]? =some u\/r[1]? =some u)->-u∈S.row.take (S.seen+1)->-u∈S.row.take S.seen:=λ u hu hm=>by
     replace hm:=hl▸ba▸hm
     rcases aw.mp hm with hm | hm
     ·exact hm
     ·exfalso
      have e:-u=l:=by simpa using hm
      have:u=-l:=KM e
      exact h (dI (iM S 0 (-l)) ((wt.w3 (-l) i).mpr ⟨r,hr',dI this hu⟩))
    exact ⟨λ m=>q1 (hno x (.inl hx) m),λ m=>q2 (hno y (.inr hy) m)⟩
  ·exact ((ah (Nat.add_sub_cancel ..) (ah (dN ..) hl)):S.row[S.seen+1-1]? =some (- -l))
 turn S lost ns k i h hF hi:=by
  obtain ⟨cr,wt,wi,wb,bs,s1,sl,lo,nz,nl,kp⟩:=h
  have hdk:ns.drop k=i::ns.drop (k+1):=by
   obtain ⟨h1,h2⟩:=ag.mp hi
   exact af (gD h1) (ah h2 rfl)
  rw [hdk] at wt wi
  refine aM ((wt.w3 lost i).mp (by unfold wp;exact ah (if_pos rfl) (ai _ (.head _)))) λ r hr hrw=>?_
  have hg:=wt.w1 i r hr
  refine jl (ng hg hrw) λ a t hfe US Yc=>?_
  have Sv :=hg.perm US
  have hNr:r.length<=N:=by
   have hn:=hg.2.1
   have:=gM N (r.map λ l=>((l.natAbs:Int)-1)) (by
    unfold gX at hn⊢
    rw [cY] at hn⊢
    exact hn.imp λ h e=>h (Ct e)) λ q hq=>by
     refine aM (aJ.mp hq) λ l hl QW=>?_;subst QW
     have:=hg.2.2 l hl;exact Cq this
   rwa [ae] at this
  have hrow:=cr.trl.len
  have hal:a.natAbs≠lost.natAbs:=Sv.ne (i:=0) (j:=1) rfl rfl (by decide)
  have UC:=Sv.2.2 a (.head _)
  have hlv:=Sv.2.2 lost (.tail _ (.head _))
  have hlm:-lost∈S.row:=am lo
  have hnd:i∉ns.drop (k+1):=by
   have:=wt.w2 lost
   unfold wp at this
   replace this:=if_pos rfl▸this;rewrite [c8] at this
   exact (bp.mp this.2.1).1
  have hw1:=wt.wz (k:=40000) (ah kp.rows hR)
  --the old watch invariant,the row in front
  have hwi:=oT (lost:=lost) hg.1 (wi i r hr)
  rewrite [if_pos (.head _)] at hwi;replace hwi:=hfe▸hwi
  clear Yc hrw;refine aU (fm.mp hwi) λ UX V=>?_
  have hwb:∀b∈S.begins,(-a∈S.row.take b->lost∈S.row.take b):=λ b hb=>by
   have:=oT (lost:=lost) hg.1 (wb b hb i r hr)
   replace this:=hfe▸this
   exact (fm.mp this).1
  have hlf:lost∉S.row:=λ q=>cr.trl.tr.not_both nz q hlm
  have hna:-a∉S.row.take S.seen:=λ q=>by
   rcases zg s1 lo q with q | q
   ·exact hlf (UX q)
   ·have e:a=lost:=Nc.mp q
    exact hal (ah e rfl)
  have ha0:a≠0:=λ q=>by replace UC:=q▸UC;simp at UC
  have hmemk:∀j,j≠i->(j∈i::ns.drop (k+1)↔j∈ns.drop (k+1)):=λ j hj=>io aL ⟨λ h=>h.elim (λ e=>absurd e hj) id,.inr⟩
  have hlow:-1000<=lost/\lost<=1000:=G8 hlv hN
  refine II r hr hg.1 (ac hNr (ac hN (aj _ _))) (λ x hx=>?_) hw1 nl (KL hN hrow) hlow.1 hlow.2 ?_
  ·have:=hg.2.2 x hx;exact G8 this hN
  have hkeep:∀S',S'.begins=S.begins->S'.heats=S.heats->S'.lock=S.lock->S'.limit=S.limit->S'.clashes=S.clashes->S'.refuted=S.refuted->S'.log=S.log->S'.blamed=S.blamed->S'.rows.length=S.rows.length->(∃t,S'.row=S.row++t)->pS S0 S' :=λ S' a1 a2 a3 a4 a5 a6 a7 a8 a9 QY=>by
   refine aS QY λ u hu=>?_;clear QY
   exact aS kp.row λ v hv=>⟨a1.trans kp.begins,a2.trans kp.heats,a3.trans kp.lock,a4.trans kp.limit,a5.trans kp.clashes,a6.trans kp.refuted,a7.trans kp.log,a8.trans kp.blamed,a9.trans kp.rows,v++u,af hu (ah hv (af (dp ..) rfl))⟩
  clear hal hlow hlv hwi UX;rcases uV (lost:=lost) hr with ⟨hm,k',z,hk',hz,T7,Xb,hS⟩ | ⟨hm,hS,hall⟩
  ·--moved
   refine aU (wt.move hr hk' hz) λ RH hpm=>?_
   replace RH :=dE hS▸RH
   have hrows:(dB S i lost).1.rows=S.rows.set i (((cJ r lost).set 1 z).set k' lost):=ah hS rfl
   have hr'' :((cJ r lost).set 1 z).set k' lost=a::z::t.set (k' -2) lost:=by
    refine ah hfe ?_
    clear hS hpm hrows hz;obtain ⟨q,rfl⟩:∃q,k' =q+2:=⟨k' -2,dE (ic hk')⟩
    rfl
   have hzn:-z∉S.row:=λ q=>by
    have hzm:z∈cJ r lost:=am hz
    have VA:=Sv.2.2 z (dI hfe hzm)
    have hz0:z≠0:=λ e=>by replace VA:=e▸VA;simp at VA
    exact T7 ((cr.trl.tr.mem_false hz0).mpr q)
   refine du (RH.wz (ah hrows (ah bZ (ah kp.rows (ac hR (aj _ _)))))) (λ V=>?_) (λ h=>(by replace h:=hm▸h;exact (ze h).elim))
   have e1:(dB S i lost).1.row=S.row:=ah hS rfl
   have e2:(dB S i lost).1.begins=S.begins:=ah hS rfl
   have e3:(dB S i lost).1.seen=S.seen:=ah hS rfl
   refine ⟨cr.turn (ah hS rfl) (ah hS rfl) (ah hS rfl) e1 e2 (og.one hr hrows hpm),RH,λ j QX hj=>?_,λ b hb j QX hj=>?_,ah e2 (ah e3 bs),ah e3 s1,ah e3 (ah e1 sl),ah e1 (ah e3 lo),nz,nl,
    hkeep _ e2 (ah hS rfl) (ah hS rfl) (ah hS rfl) (ah hS rfl) (ah hS rfl) (ah hS rfl) (ah hS rfl) (ah hrows (af bZ rfl)) ⟨[],by refine af e1 ?_;simp⟩⟩
   ·replace hj:=hrows▸hj;rewrite [fU hr] at hj
    refine ah e1 (ah e3 ?_)
    by_cases e:j=i
    ·replace hj:=if_pos e▸hj;have Rb:=sI hj;clear hj;subst Rb
     exact ah e (ah (if_neg hnd) (ah hr'' (fm.mpr ⟨λ q=>absurd q hna,λ q=>absurd (bU _ _ q) hzn⟩)))
    ·replace hj:=if_neg e▸hj
     have:=wi j QX hj
     simp only [hmemk j e] at this
     exact this
   ·replace hj:=hrows▸hj;rewrite [fU hr] at hj
    replace hb:=e2▸hb
    refine ah e1 ?_
    by_cases e:j=i
    ·replace hj:=if_pos e▸hj;have Q8:=sI hj;clear hj;subst Q8
     exact ah hr'' (fm.mpr ⟨λ q=>absurd (bU _ _ (hwb b hb q)) hlf,λ q=>absurd (bU _ _ q) hzn⟩)
    ·replace hj:=if_neg e▸hj;exact wb b hb j QX hj
  ·--not moved
   have RH :=wt.stay hr
   rw [hfe] at hS hall RH
   have hgd:(cJ r lost).getD 0 0=a:=ah hfe rfl
   refine ah hgd ?_
   have hall' :says S a=some true\/∀x∈t,says S x=some false:=hall.imp id λ q x hx=>by
    refine aS (aK.mp hx) λ j hj=>?_
    have hjl:=(ag.mp hj).1
    have:=q (j+2) (aj _ _) (by refine dI US.length_eq ?_;simp;exact hjl)
    have e:(a::lost::t).getD (j+2) 0=x:=jj (af fx (af fx hj))
    replace this:=e▸this;exact this
   have hmw:Wz (dB S i lost).1 40001:=λ l=>ah hS (ac (hw1 l) (aj _ _))
   refine du hmw (λ h=>(by replace h:=hm▸h;exact (jD h).elim)) (λ V=>(ah hS ?_))
   clear hS hall hgd hlf hm hmw hwb wt;generalize hS2:fz (S.uRows (S.rows.set i (a::lost::t))) lost i=S2 at RH ⊢
   have hrows:S2.rows=S.rows.set i (a::lost::t):=dI hS2 rfl
   have e1:S2.row=S.row:=dI hS2 rfl
   have e2:S2.begins=S.begins:=dI hS2 rfl
   have e3:S2.seen=S.seen:=dI hS2 rfl
   have cr2:Cr N W as S2:=cr.turn (dI hS2 rfl) (dI hS2 rfl) (dI hS2 rfl) e1 e2 (og.one hr hrows US)
   have kp2:pS S0 S2:=hkeep _ e2 (dI hS2 rfl) (dI hS2 rfl) (dI hS2 rfl) (dI hS2 rfl) (dI hS2 rfl) (dI hS2 rfl) (dI hS2 rfl) (ah hrows (af bZ rfl)) ⟨[],by refine af e1 ?_;simp⟩
   have sy2:∀x,says S2 x=says S x:=λ x=>dI hS2 rfl
   have hri:S2.rows[i]? =some (a::lost::t):=by refine ah hrows ?_;rewrite [fU hr];exact af (if_pos rfl) rfl
   have wb2:∀b∈S2.begins,∀(j:Nat) (QX:List Int),S2.rows[j]? =some QX->ow (S2.row.take b) (S2.row.take b) QX:=λ b hb j QX hj=>by
    replace hj:=hrows▸hj;rewrite [fU hr] at hj
    replace hb:=e2▸hb
    refine ah e1 ?_
    by_cases e:j=i
    ·replace hj:=if_pos e▸hj;have Rc:=sI hj;clear hj;subst Rc
     have:=oT (lost:=lost) hg.1 (wb b hb i r hr)
     replace this:=hfe▸this;exact this
    ·replace hj:=if_neg e▸hj;exact wb b hb j QX hj
   have wi2:a∈S.row->∀(j:Nat) (QX:List Int),S2.rows[j]? =some QX->ow (S.row.take (if j∈ns.drop (k+1) then S.seen-1 else S.seen)) S.row QX:=λ ham j QX hj=>by
    replace hj:=hrows▸hj;rewrite [fU hr] at hj
    by_cases e:j=i
    ·replace hj:=if_pos e▸hj;have Rp:=sI hj;clear hj;subst Rp
     exact ah e (ah (if_neg hnd) (fm.mpr ⟨λ q=>absurd q hna,λ V=>ham⟩))
    ·replace hj:=if_neg e▸hj
     have:=wi j QX hj
     simp only [hmemk j e] at this
     exact this
   refine du (λ hs=>?_) (λ hs=>?_) (λ hs=>?_)
   ·--a clash
    have hf:=hall'.resolve_left (by refine ah hs ?_;simp)
    have haf:-a∈S.row:=(cr.trl.tr.mem_false ha0).mp hs
    refine ⟨cr2.turn rfl rfl rfl rfl rfl ⟨rfl,λ c r h=>⟨r,h,.refl _⟩⟩,RH.clash,wb2,⟨kp2.begins,kp2.heats,kp2.lock,kp2.limit,kp2.clashes,kp2.refuted,kp2.log,kp2.blamed,kp2.rows,kp2.row⟩,a::lost::t,hri,λ x hx=>?_,S.seen-1,-lost,?_,?_,?_⟩
    ·refine ((ah e1 ?_):-x∈S2.row)
     clear hS2 ha0 hall' UC hfe US hna hri hrows hs RH lo nz wi2;rcases aL.mp hx with rfl | hx
     ·exact haf
     ·rcases aL.mp hx with rfl | hx
      ·exact hlm
      ·have Tu:=Sv.2.2 x (.tail _ (.tail _ hx))
       exact (cr.trl.tr.mem_false (λ e=>by replace Tu:=e▸Tu;simp at Tu)).mp (hf x hx)
    ·change S2.row[_]? =_;exact ah e1 lo
    ·exact ah (dN ..) (.tail _ (.head _))
    ·exact ((ah e2 (mr λ b hb=>by have:=bs b hb;exact AK this)):eG S2.begins (S.seen-1)=S2.begins.length)
   ·--the first literal is true
    have ham:a∈S.row:=(cr.trl.tr.mem_true ha0).mp hs
    exact ⟨cr2,RH,ah e1 (ah e3 (wi2 ham)),wb2,ah e2 (ah e3 bs),ah e3 s1,ah e3 (ah e1 sl),ah e1 (ah e3 lo),nz,nl,kp2⟩
   ·--it is forced
    have hf:=hall'.resolve_left (by refine ah hs ?_;simp)
    have hforce:Cr N W as (j8 S2 a (some i)):=cr2.force (af (sy2 ..) hs) UC hri (.head _) (λ x hx hne=>by
     refine ah e1 ?_
     clear hS2 ha0 hall' UC hfe US hna hri hrows hs RH lo nz wi2;rcases aL.mp hx with rfl | hx
     ·exact absurd rfl hne
     ·rcases aL.mp hx with rfl | hx
      ·exact hlm
      ·have Tu:=Sv.2.2 x (.tail _ (.tail _ hx))
       exact (cr.trl.tr.mem_false (λ e=>by replace Tu:=e▸Tu;simp at Tu)).mp (hf x hx)) (ah e1 (ah e2 (λ b hb=>by have:=bs b hb;exact aq (aq (bn _) this) sl)))
    have hrow' :(j8 S2 a (some i)).row=S.row++[a]:=((ah e1 rfl):S2.row++[a]=_)
    have htk:∀q,q<=S.row.length->(S.row++[a]).take q=S.row.take q:=λ q hq=>df hq
    refine ⟨hforce,RH.same rfl rfl,λ j QX hj=>?_,λ b hb j QX hj=>?_,((ah e2 (ah e3 bs)):∀b∈S2.begins,b+1<=S2.seen),((ah e3 s1):1<=S2.seen),?_,?_,nz,nl,?_⟩
    ·have hj' :S2.rows[j]? =some QX:=hj
     refine ah hrow' (((ah e3 (ah (htk _ (by refine eH (λ V=>?_) λ V=>?_<;>lia)) ?_)):ow ((S.row++[a]).take (if j∈ns.drop (k+1) then S2.seen-1 else S2.seen)) _ _))
     replace hj' :=hrows▸hj';rewrite [fU hr] at hj'
     by_cases e:j=i
     ·replace hj' :=if_pos e▸hj';(try clear hj);have Q7:=sI hj';clear hj';subst Q7
      exact ah e (ah (if_neg hnd) (fm.mpr ⟨λ q=>absurd q hna,λ V=>by simp⟩))
     ·replace hj' :=if_neg e▸hj'
      have:=wi j QX hj'
      simp only [hmemk j e] at this
      exact this.mono (λ x h=>h) λ x h=>ak _ h
    ·have hb' :b∈S2.begins:=hb
     have:=wb2 b hb' j QX hj
     replace hb' :=e2▸hb'
     refine ah hrow' (ah (htk b (by have:=bs b hb';exact ac (aP (bn _)) (ac this sl))) ?_)
     replace this:=e1▸this;exact this
    ·exact ((ah hrow' (ah e3 (ah av (ac sl (aB _ _))))):S2.seen<=(j8 S2 a (some i)).row.length)
    ·exact ((ah hrow' (ah e3 (af (bN (ag.mp lo).1) lo))):(j8 S2 a (some i)).row[S2.seen-1]? =_)
    ·exact aS kp2.row λ v hv=>⟨kp2.begins,kp2.heats,kp2.lock,kp2.limit,kp2.clashes,kp2.refuted,kp2.log,kp2.blamed,kp2.rows,v++[a],((ah hv (af (dp ..) rfl)):S2.row++[a]=_)⟩
end
section
noncomputable def pK(S:SS)(mk:List Int)(j:Nat):Bool:=match S.row[j]? with
 | some l=>decide ((l.natAbs:Int)∈mk)&&decide (eG S.begins j=S.begins.length)
 | none=>false
noncomputable def cnt(S:SS)(mk:List Int)(sp:Nat):Nat:=((cV sp).filter (pK S mk)).length
theorem hO:pK S mk j=true↔∃l,S.row[j]? =some l/\(l.natAbs:Int)∈mk/\eG S.begins j=S.begins.length:=by
 unfold pK
 cases e:S.row[j]? with
 | none=>simp
 | some l=>simp
theorem qH(S:SS)(mk:List Int)(sp:Nat):cnt S mk (sp+1)=cnt S mk sp+if pK S mk sp=true then 1 else 0:=by
 unfold cnt
 refine ah l_ (ah (cN ..) (af av (ah bG ?_)))
 split at⊢<;>simp
theorem FC(hj:j<sp)(h:pK S mk j=true):0<cnt S mk sp:=wc (bE.mpr ⟨cE.mpr hj,h⟩)
theorem vk(h:0<cnt S mk sp):∃j,j<sp/\pK S mk j=true:=aS (List.exists_mem_of_length_pos h) λ j hj=>(aU (bE.mp hj) λ h1 h2=>(cC j (cE.mp h1) h2))
theorem FD(h:cnt S mk sp=1)(hi:i<sp)(hj:j<sp)(oi:pK S mk i=true)(oj:pK S mk j=true):i=j:=by
 refine aS (lD.mp h) λ a ha=>?_
 have h1:i∈(cV sp).filter (pK S mk):=bE.mpr ⟨cE.mpr hi,oi⟩
 have h2:j∈(cV sp).filter (pK S mk):=bE.mpr ⟨cE.mpr hj,oj⟩
 rw [ha,al] at h1 h2
 exact bx (ac (aC h1) (xb h2 (az _))) (ac (aC h2) (xb h1 (az _)))
theorem vl(T:Tr S)(hj:S.row[j]? =some l)(hn:(l.natAbs:Int)∉mk):∀sp,cnt S (mk++[(l.natAbs:Int)]) sp=cnt S mk sp+if j<sp/\eG S.begins j=S.begins.length then 1 else 0
 | 0=>by simp [cnt]
 | sp+1=>by
  refine af (qH ..) (ah (qH ..) (ah (vl T hj hn sp) ?_))
  by_cases e:sp=j
  ·subst e
   have h1:pK S mk sp=false:=by
    cases q:pK S mk sp with
    | false=>rfl
    | true=>
     refine c9 (hO.mp q) λ l' h1 h2 V=>?_
     replace h1:=hj▸h1;(try clear hj);have QI:=sI h1;clear h1;subst QI;exact absurd h2 hn
   have h2:pK S (mk++[(l.natAbs:Int)]) sp=decide (eG S.begins sp=S.begins.length):=by
    unfold pK;refine ah hj ?_;simp
   refine ah h1 (ah h2 ?_)
   by_cases hl:eG S.begins sp=S.begins.length
   ·simp [hl]
   ·simp [hl]
  ·have h1:pK S (mk++[(l.natAbs:Int)]) sp=pK S mk sp:=by
    unfold pK
    cases q:S.row[sp]? with
    | none=>rfl
    | some l' =>
     have hne:(l'.natAbs:Int)≠l.natAbs:=λ h=>e (T.inj q hj (by exact_mod_cast h))
     simp [hne]
   refine ah h1 ?_
   have h2:(j<sp+1/\eG S.begins j=S.begins.length)↔(j<sp/\eG S.begins j=S.begins.length):=⟨λ h=>⟨KJ h e,h.2⟩,λ h=>⟨bD h.1 (bn _),h.2⟩⟩
   simp only [h2]
   exact dL _ _ _
theorem yH:∀sp,(∀i,j<i->i<sp->pK S mk i=false)->pK S mk j=true->j<sp->cnt S mk sp=cnt S mk j+1
 | 0,_,_,h=>absurd (au (bb _) h) (by decide)
 | sp+1,hn,ho,h=>by
  refine af (qH ..) ?_
  by_cases e:sp=j
  ·clear h hn;subst e;exact ah (if_pos ho) rfl
  ·refine ah (hn sp (G7 h e) (bn _)) (ah (yH sp (λ i a b=>hn i a (bD b (bn _))) ho (G7 h e)) ?_);simp
theorem sh(hj:j∈bs)(h:i<j):eG bs i<eG bs j:=by
 unfold eG
 induction bs with
 | nil=>cases hj
 | cons b bs ih=>
  have hm:((bs.filter λ b=>decide (b<=i)).length)<=((bs.filter λ b=>decide (b<=j)).length):=nR (aP h)
  refine ah bG (ah bG ?_)
  rcases aL.mp hj with rfl | hj
  ·have h1:¬j<=i:=uc.mpr h
   simp [h1];exact eh hm
  ·have:=ih hj
   by_cases h1:b<=i
   ·have h2:b<=j:=aP (au h1 h)
    simp [h1,h2];exact this
   ·by_cases h2:b<=j
    ·simp [h1,h2];exact au hm (bn _)
    ·simp [h1,h2];exact this
structure Mk(S:SS)(sp:Nat)(mk bh:List Int)(o:Nat):Prop where
 k1:mk.Nodup
 k2:∀v∈mk,∃(j:Nat) (l:Int),S.row[j]? =some l/\(l.natAbs:Int)=v/\0<eG S.begins j/\(eG S.begins j<S.begins.length->-l∈bh)
 k3:∀x∈bh,(x.natAbs:Int)∈mk/\∃j:Nat,S.row[j]? =some (-x)/\0<eG S.begins j/\eG S.begins j<S.begins.length
 k4:(bh.map bB).Nodup
 k5:o=cnt S mk sp
theorem uZ(T:kt N S):∀(r:List Int) (t:List Int×List Int×Nat),(∀x∈r,x≠QJ->∃j,j<sp/\S.row[j]? =some (-x))->Mk S sp t.1 t.2.1 t.2.2->
  Mk S sp (r.foldl (dm S QJ) t).1 (r.foldl (dm S QJ) t).2.1 (r.foldl (dm S QJ) t).2.2/\(∀v∈t.1,v∈(r.foldl (dm S QJ) t).1)/\(∀v∈t.2.1,v∈(r.foldl (dm S QJ) t).2.1)/\t.2.2<=(r.foldl (dm S QJ) t).2.2/\
  ∀x∈r,x≠QJ->∀j,S.row[j]? =some (-x)->0<eG S.begins j->(x.natAbs:Int)∈(r.foldl (dm S QJ) t).1
 | [],t,_,K=>⟨K,λ V h=>h,λ V h=>h,az _,λ x hx=>by cases hx⟩
 | x::r,t,hr,K=>by
  obtain ⟨mk,bh,o⟩:=t
  dsimp only at K
  --one step
  have step:Mk S sp (dm S QJ (mk,bh,o) x).1 (dm S QJ (mk,bh,o) x).2.1 (dm S QJ (mk,bh,o) x).2.2/\(∀v∈mk,v∈(dm S QJ (mk,bh,o) x).1)/\(∀v∈bh,v∈(dm S QJ (mk,bh,o) x).2.1)/\o<=(dm S QJ (mk,bh,o) x).2.2/\
    (x≠QJ->∀j,S.row[j]? =some (-x)->0<eG S.begins j->(x.natAbs:Int)∈(dm S QJ (mk,bh,o) x).1):=by
   by_cases hp:x=QJ
   ·have:dm S QJ (mk,bh,o) x=(mk,bh,o):=by unfold dm;exact if_neg λ q=>q.1 hp
    exact ah this (pt K (λ V h=>h) (λ V h=>h) (az _) (λ h=>absurd hp h))
   refine aM (hr x (.head _) hp) λ j X7 hj=>?_
   have hh:(lk S.heights x.natAbs).getD 0=eG S.begins j:=by
    have:=T.ht j _ hj
    replace this:=(bO ..)▸this
    exact ah this rfl
   have huniq:∀j',S.row[j']? =some (-x)->j' =j:=λ j' h' =>T.tr.inj h' hj rfl
   by_cases hm:(x.natAbs:Int)∈mk
   ·have:dm S QJ (mk,bh,o) x=(mk,bh,o):=by unfold dm;exact if_neg λ q=>q.2.1 hm
    exact ah this (pt K (λ V h=>h) (λ V h=>h) (az _) (λ V V V V=>hm))
   by_cases hz:0<eG S.begins j
   ·have hcond:x≠QJ/\(x.natAbs:Int)∉(mk,bh,o).1/\0<(lk S.heights x.natAbs).getD 0:=⟨hp,hm,ah hh hz⟩
    have hcm:=vl T.tr hj (mk:=mk) (ah (bO ..) hm) sp
    replace hcm:=(bO ..)▸hcm
    have hn1:(mk++[(x.natAbs:Int)]).Nodup:=c8.mpr ⟨K.k1,by simp,λ a ha b hb=>ah (al.mp hb) (λ e=>hm (e▸ha))⟩
    by_cases hc:eG S.begins j=S.begins.length
    ·have:dm S QJ (mk,bh,o) x=(mk++[(x.natAbs:Int)],bh,o+1):=by unfold dm;exact af (if_pos hcond) (ah hh (af (if_pos hc) rfl))
     refine ah this ?_
     rewrite [if_pos ⟨X7,hc⟩] at hcm
     refine pt ⟨hn1,λ v hv=>?_,λ y hy=>⟨ak _ (K.k3 y hy).1,(K.k3 y hy).2⟩,K.k4,ah hcm (ah K.k5 rfl)⟩ (λ v hv=>ak _ hv) (λ v hv=>hv) (dR _) (λ V V V V=>by simp)
     rcases aw.mp hv with hv | hv
     ·exact K.k2 v hv
     ·exact ah (al.mp hv) (pn j (-x) hj (ah (bO ..) rfl) hz (λ h=>absurd hc (bu h)))
    ·have hlt:eG S.begins j<S.begins.length:=dy (oN _ _) hc
     have:dm S QJ (mk,bh,o) x=(mk++[(x.natAbs:Int)],bh++[x],o):=by unfold dm;exact af (if_pos hcond) (ah hh (af (if_neg hc) rfl))
     refine ah this ?_
     rewrite [if_neg λ q=>hc q.2] at hcm
     refine pt ⟨hn1,λ v hv=>?_,λ y hy=>?_,?_,ah hcm (af (jG ..) K.k5)⟩ (λ v hv=>ak _ hv) (λ v hv=>ak _ hv) (az _) (λ V V V V=>by simp)
     ·rcases aw.mp hv with hv | hv
      ·exact jk (K.k2 v hv) λ j' l' a b c d=>(pn j' l' a b c (λ h=>ak _ (d h)))
      ·exact ah (al.mp hv) (pn j (-x) hj (ah (bO ..) rfl) hz (λ V=>by refine ah (dN ..) ?_;simp))
     ·rcases aw.mp hy with hy | hy
      ·exact ⟨ak _ (K.k3 y hy).1,(K.k3 y hy).2⟩
      ·exact ah (al.mp hy) ⟨by simp,j,hj,hz,hlt⟩
     ·refine ah aD (io c8 (du K.k4 (by simp) (λ a ha b hb=>(aM (aJ.mp ha) λ y hy QL=>?_))));subst QL
      replace hb:=pG▸bc▸hb;rewrite [al] at hb
      refine ah hb ?_
      intro e
      have:=(K.k3 y hy).1
      replace this:=e▸this
      exact hm this
   ·have:dm S QJ (mk,bh,o) x=(mk,bh,o):=by unfold dm;exact ah (if_neg λ q=>hz (dI hh (q.2.2))) rfl
    exact ah this (pt K (λ V h=>h) (λ V h=>h) (az _) (λ V j' h' h0=>absurd (huniq j' h' ▸h0) hz))
  refine sx step λ s1 s2 s3 s4 s5=>?_;clear step
  refine sx (uZ T r _ (λ y hy=>hr y (.tail _ hy)) s1) λ q1 q2 q3 q4 q5=>(ah en (pt q1 (λ v hv=>q2 v (s2 v hv)) (λ v hv=>q3 v (s3 v hv)) (ac s4 q4) (λ y hy hne j hj h0=>?_)))
  clear hr q1 q3 q4 s1 s2 s3 s4;rcases aL.mp hy with rfl | hy
  ·exact q2 _ (s5 hne j hj h0)
  ·exact q5 y hy hne j hj h0
end
section
noncomputable def HK(N:Nat)(hs:List (Int×Int)):Prop:=∀k:Int,k∈hs.map (·.1)↔1<=k/\k<=N
theorem pk{α:Type}{r:List (Int×α)}:(lk r l).isSome=true↔l∈r.map (·.1):=by
 have:=gF r l
 cases e:lk r l with
 | none=>simp;exact λ x hx=>(this.mp e) (aJ.mpr ⟨_,hx,rfl⟩)
 | some v=>
  replace this:=e▸this
  simp only [reduceCtorEq,false_iff,wf] at this
  simp only [gQ,true_iff];exact this
structure Jf(N:Nat)(W:(Int->Prop)->Prop)(S:SS)(t:List Int):Prop where
 ex:∃(j:Nat) (l:Int) (tl:List Int),t=-l::tl/\S.row[j]? =some l/\eG S.begins j=S.begins.length/\∀x∈tl,∃i:Nat,S.row[i]? =some (-x)/\0<eG S.begins i/\eG S.begins i<S.begins.length
 nd:(t.map bB).Nodup
 sem:∀K,W K->(∀x∈t,K (-x))->False
structure Ou(N:Nat)(W:(Int->Prop)->Prop)(S:SS)(mk bh:List Int)(o sp:Nat)(QJ:Int)(number:Nat):Prop where
 row:∃r,S.rows[number]? =some r/\(∀x∈r,x≠QJ->∃j,j<sp/\S.row[j]? =some (-x))/\(0<o\/∃x∈r,x≠QJ/\∃j,S.row[j]? =some (-x)/\eG S.begins j=S.begins.length)/\
  (∀x∈r,∃(j:Nat) (l:Int),S.row[j]? =some l/\l.natAbs=x.natAbs)/\
  ∀K,W K->(∀x∈bh,K (-x))->(∀(j:Nat) (l:Int),j<sp->S.row[j]? =some l->pK S mk j=true->K l)->(∀x∈r,x≠QJ->K (-x))->False
 spl:sp<=S.row.length
 mks:Mk S sp mk bh o
open Classical in
theorem yu{p:Nat->Prop}:∀(n:Nat),(∃j,j<n/\p j)->∃j,j<n/\p j/\∀i,j<i->i<n->¬p i
 | 0,⟨j,h,_⟩=>absurd (au (bb _) h) (by decide)
 | n+1,⟨j,h,hp⟩=>by
  by_cases hn:p n
  ·exact fW n (bn _) hn (λ i a b=>absurd a (fp.mpr (b_ b)))
  ·have hj:j<n:=by
    rcases cx j n with q | q
    ·exact q
    ·have:j=n:=bx (b_ h) q
     clear h q;subst this;exact absurd hp hn
   (try clear h);refine c9 (yu n ⟨j,hj,hp⟩) λ k h1 h2 h3=>(fW k (bD h1 (bn _)) h2 (λ i a b=>?_))
   clear h1 hj;rcases cx i n with q | q
   ·exact h3 i a q
   ·have:i=n:=bx (b_ b) q
    clear b h3 q;subst this;exact hn
theorem BO(h:∀v∈mk,v∈mk')(o:pK S mk j=true):pK S mk' j=true:=c9 (hO.mp o) λ l a b c=>(hO.mpr ⟨l,a,h _ b,c⟩)
theorem kt.nz(T:kt N S)(h:l∈S.row):l≠0:=λ e=>by
 have:=(T.var l h).1;replace this:=e▸this;simp at this
theorem nJ{r:List Int}(h1:(r.map bB).Nodup)(h2:∀l∈r,1<=l.natAbs/\l.natAbs<=N):r.length<=N:=by
 have hn:(r.map λ l=>((l.natAbs:Int)-1)).Nodup:=by
  unfold gX at h1⊢
  rw [cY] at h1⊢
  exact h1.imp λ h e=>h (Ct e)
 have:=gM N _ hn λ k hk=>by
  refine aM (aJ.mp hk) λ l hl QI=>?_;subst QI
  have:=h2 l hl;exact Cq this
 rwa [ae] at this
theorem zF{N:Nat}{W:(Int->Prop)->Prop}(hN:N<=900)(C:Cr N W as S)(hg:∀(i:Nat) (r:List Int),S.rows[i]? =some r->Good N r)(hk:HK N S.heats)(hb:S.begins≠[]):jt S (Ou N W S) (Jf N W S) where
 turn mk bh o sp QJ number hL:=by
  obtain ⟨⟨r,hr,hx,ho,hal,UY⟩,Vn,K⟩:=hL
  have T:=C.trl
  have VT:=hg number r hr
  have hcur:0<S.begins.length:=nF.mpr hb
  refine sx (uZ T r (mk,bh,o) hx K) λ q1 q2 q3 q4 q5=>?_
  have hmk:mk.length<=N:=by
   have:=gM N (mk.map λ v=>v-1) (by
     have:=K.k1
     unfold gX at this⊢
     exact io cY (this.imp λ h e=>h (KI e))) (λ k hk=>by
     refine aM (aJ.mp hk) λ v hv QL=>?_;subst QL
     refine jl (K.k2 v hv) λ j l a b V=>?_
     have:=T.var l (am a);exact KG b this)
   rwa [ae] at this
  have hbh:bh.length<=N:=nJ K.k4 λ l hl=>by
   obtain ⟨_,j,a,_⟩:=K.k3 l hl
   have:=T.var _ (am a)
   rwa [bO] at this
  have hrl:r.length<=N:=nJ VT.2.1 VT.2.2
  refine LM r hr (ac hrl (ac hN (aj _ _))) (ac hmk (ac hN (aj _ _))) (ac hbh (ac hN (aj _ _))) Vn (λ l hl=>?_) ?_
  ·refine ck (hal l hl) λ j l' a b=>?_
   have:=T.ht j l' a
   replace this:=b▸this
   refine ⟨ah this rfl,pk.mpr ((hk _).mpr ?_)⟩
   have:=VT.2.2 l hl;exact bk (bY.mpr this.1) (bY.mpr this.2)
  dsimp only at q2 q3 q4
  generalize hmk' :(r.foldl (dm S QJ) (mk,bh,o)).1=mk' at*
  generalize hbh' :(r.foldl (dm S QJ) (mk,bh,o)).2.1=bh' at*
  generalize ho' :(r.foldl (dm S QJ) (mk,bh,o)).2.2=o' at*
  have hpos:0<o' :=by
   rcases ho with h | ⟨x,TM,hne,j,hj,hl⟩
   ·exact aq h q4
   ·refine aM (hx x TM hne) λ j' hj' hj2=>?_
    have e:=T.tr.inj hj hj2 rfl
    (try clear hj2);subst e
    exact ah q1.k5 (FC hj' (hO.mpr ⟨_,hj,ah (bO ..) (q5 x TM hne j hj (yc hl hcur)),hl⟩))
  refine aM (vk (dI q1.k5 hpos)) λ j0 Vr XY=>?_
  refine c9 (hO.mp XY) λ l0 hl0 hm0 XK=>(c9 (yu (p:=λ j=>∃l,S.row[j]? =some l/\(l.natAbs:Int)∈mk') sp ⟨j0,Vr,l0,hl0,hm0⟩) λ j hj QT hno=>(aM QT λ l hl hlm=>?_));clear QT
  have hj0j:j0<=j:=by
   rcases cx j j0 with q | q
   ·exact absurd ⟨l0,hl0,hm0⟩ (hno j0 q Vr)
   ·exact q
  have hlj:eG S.begins j=S.begins.length:=by
   have h1:=nR (bs:=S.begins) hj0j
   have h2:=oN S.begins j
   exact bx h2 (xb XK h1)
  have hoj:pK S mk' j=true:=hO.mpr ⟨l,hl,hlm,hlj⟩
  have hgap:cnt S mk' sp=cnt S mk' j+1:=yH sp (λ i a b=>by
   cases e:pK S mk' i with
   | false=>rfl
   | true=>
    exact c9 (hO.mp e) λ l' c d V=>(absurd ⟨l',c,d⟩ (hno i a b))) hoj hj
  have hl0' :l≠0:=T.nz (am hl)
  --what the marks say
  have hs' :∀K,W K->(∀x∈bh',K (-x))->(∀(j:Nat) (l:Int),j<sp->S.row[j]? =some l->pK S mk' j=true->K l)->False:=λ K hw k1 k2=>UY K hw (λ x h=>k1 x (q3 x h)) (λ i y a b c=>k2 i y a b (BO q2 c)) λ x h1 h2=>by
   refine aM (hx x h1 h2) λ i hi hi2=>?_
   rcases dX (eG S.begins i) with hz | hz
   ·exact C.snd.c2 i _ hi2 hz K hw
   ·have hm:=q5 x h1 h2 i hi2 hz
    by_cases hc:eG S.begins i=S.begins.length
    ·exact k2 i _ hi hi2 (hO.mpr ⟨_,hi2,ah (bO ..) hm,hc⟩)
    ·refine jk (q1.k2 _ hm) λ i' y a b c d=>?_
     have e:i' =i:=T.tr.inj a hi2 (by refine ah (bO ..) ?_;exact_mod_cast b)
     clear b;subst e
     replace a:=hi2▸a;have QW:=sI a;clear a;subst QW
     have:=d (dy (oN _ _) hc)
     replace this:=(dN ..)▸this
     exact k1 x this
  refine LK j l hj hl hlm (λ i l' a b c d=>hno i a b ⟨l',c,d⟩) hpos (λ h1=>?_) (λ h1=>?_)
  ·refine ⟨⟨j,l,bh',rfl,hl,hlj,λ x hx' =>(q1.k3 x hx').2⟩,?_,λ K hw k=>?_⟩
   ·refine ah bc (io bp ⟨λ h=>?_,q1.k4⟩)
    clear hgap hj hj0j hno hoj;refine aM (aJ.mp h) λ x hx1 VE=>?_
    obtain ⟨_,i,a,b,c⟩:=q1.k3 x hx1
    have:=T.tr.inj a hl (af (bO ..) (af VE (af (bO ..) rfl)))
    clear hl;subst this;exact bu c hlj
   ·refine hs' K hw (λ x h=>k x (.tail _ h)) λ i y a b c=>?_
    have:=FD (Bi q1.k5 h1) a hj c hoj
    clear hj hoj;subst this
    replace b:=hl▸b;clear hl;have QY:=sI b;clear b;subst QY
    exact dN y▸k _ (.head _)
  ·have hne:j∉S.begins:=λ hjb=>h1 (by
    refine af q1.k5 (af hgap ?_)
    rcases dX (cnt S mk' j) with h | h
    ·exact ah h rfl
    ·refine aM (vk h) λ i hi XW=>(c9 (hO.mp XW) λ V V V h3=>?_)
     have:=sh hjb hi
     exact KF this hlj h3)
   clear hj0j hlm hoj;refine nW (T.ca j l hl) λ oc c1 c2 c3 c4=>?_
   clear c3;refine aS (c4 hne (yc hlj hcur)) λ c Rb=>?_;subst Rb
   refine c9 (c2 c rfl) λ r2 Ub SY TM=>⟨c,c1,⟨r2,Ub,λ x h2 h3=>?_,.inl (pW (dy hpos h1.symm)),λ x h2=>?_,λ K hw k1 k2 k3=>?_⟩,aP (aq hj Vn),⟨q1.k1,q1.k2,q1.k3,q1.k4,ah q1.k5 (ah hgap rfl)⟩⟩
   ·refine aS (aK.mp (TM x h2 h3)) λ i hi=>?_
    replace hi:=bv▸hi
    split at hi
    ·exact cC i (by assumption) hi
    ·exact (bw hi).elim
   ·by_cases e:x=l
    ·exact iI j l hl (ah e rfl)
    ·exact aS (aK.mp (bU _ _ (TM x h2 e))) λ i hi=>(iI i _ hi (bO x))
   ·have kl:K l:=(C.snd.c1 r2 (am Ub) K hw l k3).2
    refine hs' K hw k1 λ i y a b c' =>?_
    rcases pX i j with q | q | q
    ·exact k2 i y q b c'
    ·subst q
     replace b:=hl▸b;have Q8:=sI b;clear b;subst Q8
     exact kl
    ·exact c9 (hO.mp c') λ l' e1 e2 V=>(absurd ⟨l',e1,e2⟩ (hno i q a))
theorem zG{W:(Int->Prop)->Prop}(P:PS N W as S0 S i):Ou N W S [] [] 0 S.row.length 0 i:=by
 refine c9 P.cl λ r hr hx Rc=>(jl Rc λ j l hj hl hv=>?_);clear Rc
 have hx' :∀x∈r,∃j:Nat,S.row[j]? =some (-x):=λ x h=>aK.mp (hx x h)
 have hn0:∀x∈r,x≠0:=λ x h e=>by
  have:=(P.wt.w1 i r hr).2.2 x h
  replace this:=e▸this;simp at this
 refine ⟨⟨r,hr,λ x h V=>?_,.inr ⟨-l,hl,hn0 _ hl,j,ah (dN ..) hj,hv⟩,λ x h=>?_,λ K hw V V k=>n0 (P.cr.snd.c0 K hw) (P.cr.snd.c1 r (am hr) K hw) λ x h=>k x h (hn0 x h)⟩,az _,⟨gm,λ v hv=>(by cases hv),λ v hv=>(by cases hv),gm,?_⟩⟩
 ·exact aS (hx' x h) λ j hj=>(cC j ((ag.mp hj).1) hj)
 ·exact aS (hx' x h) λ j hj=>(iI j _ hj (bO x))
 ·refine (List.length_eq_zero_iff.mpr (io fL ?_)).symm
  intro j _ h
  refine c9 (hO.mp h) λ V V h V=>?_
  cases h
theorem Jf.vars{W:(Int->Prop)->Prop}(T:kt N S)(h:Jf N W S t):∀l∈t,1<=l.natAbs/\l.natAbs<=N:=by
 obtain ⟨⟨j,l,tl,rfl,hl,_,TN⟩,_,_⟩:=h
 intro x hx
 rcases aL.mp hx with rfl | hx
 ·have:=T.var l (am hl);rwa [bO]
 ·refine aM (TN x hx) λ i a V=>?_
  have:=T.var _ (am a);rwa [bO] at this
theorem Jf.ok{W:(Int->Prop)->Prop}{t:List Int}(hN:N<=60)(T:kt N S)(h:Jf N W S t):q7 S t:=by
 have hv:=h.vars T
 have hln:=nJ h.nd hv
 obtain ⟨⟨j,l,tl,rfl,hl,_,TN⟩,hnd,_⟩:=h
 refine ⟨?_,au hln (au hN (by decide)),by simp,λ x hx=>by have:=hv x hx;exact G9 this hN,λ x hx=>?_⟩
 ·unfold gX at hnd
  rewrite [cY] at hnd
  exact hnd.imp λ h e=>h (by exact ah e (ah (bO ..) rfl))
 ·refine aM (TN x hx) λ i a V=>?_
  have:=T.ht i _ a
  replace this:=(bO ..)▸this
  exact ah this rfl
end
section
theorem t3.back{W:(Int->Prop)->Prop}(T:kt N S)(C:t3 W S)(k:Nat):t3 W (bT S k):=by
 cases hb:S.begins[k]? with
 | none=>exact ah (jp hb) C
 | some b=>
  refine sw (kg hb (T.be b (am hb))) λ e1 e2 e3 e4 e5 e6 e7=>?_
  have hrow:∀(i:Nat) (l:Int),(S.row.take b)[i]? =some l->S.row[i]? =some l/\i<b:=λ i l h=>by
   replace h:=bv▸h
   split at h
   ·exact ⟨h,by assumption⟩
   ·exact (bw h).elim
  refine ⟨C.c0,ah e6 C.c1,?_,?_⟩
  ·refine ah e1 (ah e2 ?_)
   intro i l hi h0
   exact aU (hrow i l hi) λ h1 h2=>(C.c2 i l h1 (Bi (jg T.bs hb h2) h0))
  ·refine ah e1 (ah e2 (ah e6 ?_))
   intro w h1 h2
   refine C.c4 w h1 λ i l hi h0=>?_
   have hib:i<b:=by
    rcases cx i b with q | q
    ·exact q
    ·have:=B4 T.bs hb q;exact KE this h0
   exact h2 i l (af bv (af (if_pos hib) hi)) (af (jg T.bs hb hib) h0)
theorem v8.back{W:(Int->Prop)->Prop}(T:kt N S)(C:v8 W as S)(k:Nat):v8 W as (bT S k):=by
 cases hb:S.begins[k]? with
 | none=>exact ah (jp hb) C
 | some b=>
  have hle:=T.be b (am hb)
  refine sw (kg hb hle) λ e1 e2 e3 e4 e5 e6 e7=>⟨?_,?_,?_⟩
  ·refine ah e1 (ah e2 ?_)
   intro j a b' ha hj
   replace hj:=bv▸hj
   split at hj
   ·rename_i hjk
    have:=C.d1 j a b' ha hj
    refine ah bv (eH (λ h=>?_) λ V=>?_)
    ·have hkl:=(ag.mp hb)
     have hjl:j+1<S.begins.length:=bD h hkl.1
     have hle2:S.begins[j+1]<=b:=by
      have:=(da.mp T.bs) (j+1) k hjl hkl.1 h
      replace this:=hkl.2▸this;exact this
     rw [aA hjl] at this⊢
     exact ((ah ik (ah (dz hle2) this)):a∈(S.row.take b).take S.begins[j+1])
    ·have e:j+1=k:=bx (bK hjk) (dC (by assumption))
     replace this:=hb▸e▸this
     exact ((ah aX this):a∈(S.row.take b).take (S.row.take b).length)
   ·exact (bw hj).elim
  ·refine ah e1 (ah e2 ?_)
   intro i l hi
   replace hi:=bv▸hi
   split at hi
   ·rename_i h
    exact ah (jg T.bs hb h) (C.d2 i l hi)
   ·exact (bw hi).elim
  ·refine ah e1 (ah e2 ?_)
   intro i l hi hib
   replace hi:=bv▸hi
   split at hi
   ·exact λ hle=>C.d3 i l hi (bU _ _ hib) (jg T.bs hb (by assumption)▸hle)
   ·exact (bw hi).elim
theorem Cr.back{W:(Int->Prop)->Prop}(C:Cr N W as S)(k:Nat):Cr N W as (bT S k):=⟨C.trl.back k,C.snd.back C.trl k,C.asm.back C.trl k⟩
theorem v8.zero{W:(Int->Prop)->Prop}(h:S.begins=[])(C:t3 W S):v8 W as S:=
 ⟨λ k a b V hb=>by replace hb:=h▸hb;simp at hb,λ i l hi V w hw V=>C.c2 i l hi (ah h rfl) w hw,λ i l V hb=>by replace hb:=h▸hb;cases hb⟩
theorem Cd(S:SS)(x y:Int)(t:List Int):gl S (x::y::t)=fz (fz (S.uRows (S.rows++[x::y::t])) x S.rows.length) y S.rows.length:=by
 unfold gl
 simp only [AL,HC,en,List.foldl_nil]
 have h1:(S.rows++[x::y::t]).length-1=S.rows.length:=ah av (ah aG rfl)
 have h2:(fz (S.uRows (S.rows++[x::y::t])) x S.rows.length).rows.length-1=S.rows.length:=h1
 exact ((ah h1 (ah h2 rfl)):fz (fz _ x ((S.rows++[x::y::t]).length-1)) y ((fz _ x ((S.rows++[x::y::t]).length-1)).rows.length-1)=_)
theorem tR{r:List Int}:(rows++[c])[j]? =some r↔(rows[j]? =some r\/(j=rows.length/\r=c)):=by
 rcases cx j rows.length with h | h
 ·exact ah (bN h) ⟨.inl,λ q=>q.elim id λ q=>absurd (bu h q.1) (by decide)⟩
 ·refine ah (bI h) (ah (bt h) ?_)
  constructor
  ·intro q
   rcases dX (j-rows.length) with e | e
   ·replace q:=e▸q;exact .inr ⟨JI h e,(aO q).symm⟩
   ·rewrite [bt (by simp;exact bK e)] at q;exact (bw q).elim
  ·rintro (q | ⟨q1,q2⟩)
   ·exact (bw q).elim
   ·exact ah q1 (ah (gC ..) (ah q2 rfl))
theorem l4.keep(W:l4 N S lost [])(hg:Good N c):l4 N (gl S c) lost []:=by
 match c,hg with
 | x::y::t,hg=>
  refine ah (Cd ..) ?_
  have hxy:x≠y:=λ e=>hg.ne (i:=0) (j:=1) (x:=x) (y:=y) rfl rfl (by decide) (ah e rfl)
  have he:∀l,wp (fz (fz (S.uRows (S.rows++[x::y::t])) x S.rows.length) y S.rows.length) lost [] l=wl S l++(if l=x\/l=y then [S.rows.length] else []):=λ l=>by
   refine af (iM ..) (af (nI ..) (ah (nI ..) (ah (nI ..) ?_)))
   by_cases h:l=y
   ·(try clear hg);subst h
    exact af (if_pos rfl) (ah (if_neg (λ e=>hxy e.symm)) (ah (if_pos (.inr rfl)) rfl))
   ·refine af (if_neg h) ?_
    by_cases h' :l=x
    ·exact af (if_pos h') (ah (if_pos (.inl h')) (ah h' rfl))
    ·exact af (if_neg h') (ah (if_neg (by simp [h,h'])) (ah (dh ..) rfl))
  have hnew:∀l,S.rows.length∉wl S l:=λ l h=>by
   replace h:=dE (iM S lost l)▸h
   refine aM ((W.w3 l _).mp h) λ r hr V=>?_
   replace hr:=bt (az _)▸hr;exact (bw hr).elim
  refine ⟨λ j r h=>?_,λ l=>?_,λ l j=>?_⟩
  ·rcases tR.mp h with h | ⟨_,rfl⟩
   ·exact W.w1 j r h
   ·exact hg
  ·refine ah (he ..) ?_
   have:=W.w2 l
   replace this:=(iM ..)▸this
   refine c8.mpr ⟨this,by refine eH (λ V=>?_) λ V=>?_<;>simp,λ a ha b hb e=>?_⟩
   split at hb
   ·replace e:=al.mp hb▸e;exact hnew l (e▸ha)
   ·cases hb
  ·refine ah (he ..) (io aw (dI (iM S lost l) (io (W.w3 l j) (?_:_↔∃r,(S.rows++[x::y::t])[j]? =some r/\_))))
   constructor
   ·clear he hg hxy;rintro (⟨r,h1,h2⟩ | h)
    ·exact cC r (tR.mpr (.inl h1)) h2
    ·split at h
     ·rename_i hl
      refine ah (al.mp h) (cC _ (tR.mpr (.inr ⟨rfl,rfl⟩)) ?_)
      clear hg;rcases hl with rfl | rfl
      ·exact .inl rfl
      ·exact .inr rfl
     ·cases h
   ·intro QI;refine aM QI λ r h1 h2=>?_;clear QI
    rcases tR.mp h1 with h | ⟨rfl,rfl⟩
    ·exact .inl ⟨r,h,h2⟩
    ·refine .inr ?_
     have:l=x\/l=y:=h2.elim (λ h=> .inl (aO h).symm) (λ h=> .inr (aO h).symm)
     exact ah (if_pos this) (aN _)
noncomputable def val(f:Nat->Bool):Nat->Nat
 | 0=>0
 | n+1=>2*val f n+if f n then 1 else 0
theorem Be(f:Nat->Bool):∀n,val f n<2^n
 | 0=>by simp [val]
 | n+1=>by
  have:=Be f n
  refine ((ah (MG ..) ?_):2*val f n+(if f n then 1 else 0)<2^(n+1))
  refine eH (λ V=>?_) λ V=>?_<;>lia
theorem sO{f g:Nat->Bool}:∀n,(∀i,i<n->f i=true->g i=true)->val f n<=val g n
 | 0,_=>az _
 | n+1,h=>by
  have:=sO n λ i hi=>h i (bD hi (bn _))
  refine (?_:2*val f n+(if f n then 1 else 0)<=2*val g n+(if g n then 1 else 0))
  have hn:=h n (bn _)
  cases e1:f n with
  | false=>simp;exact ac (eF _ this) (aB _ _)
  | true=>refine ah (hn e1) ?_;simp;exact eF _ this
theorem uz{f g:Nat->Bool}:∀n,b<n->(∀i,i<b->f i=true->g i=true)->f b=false->g b=true->val f n<val g n
 | 0,h,_,_,_=>absurd (au (bb _) h) (by decide)
 | n+1,h,hi,h1,h2=>by
  refine (?_:2*val f n+(if f n then 1 else 0)<2*val g n+(if g n then 1 else 0))
  rcases cx b n with q | q
  ·have:=uz n q hi h1 h2
   refine eH (λ V=>?_) λ V=>?_<;>refine eH (λ V=>?_) λ V=>?_<;>lia
  ·have:b=n:=bx (b_ h) q
   clear h q;subst this
   refine ah h1 (ah h2 ?_)
   have:=sO b hi
   simp;exact au (eF _ this) (bn _)
noncomputable def oE(S:SS)(i:Nat):Bool:=decide (i<S.row.length)&&decide (i∉S.begins)
theorem iT:oE S i=true↔i<S.row.length/\i∉S.begins:=by unfold oE;simp
end
section
theorem mj{x:Int}(hx:(row++[l])[i]? =some x):row[i]? =some x\/(i=row.length/\x=l):=by
 rcases cx i row.length with h | h
 ·replace hx:=bN h▸hx;exact .inl hx
 ·replace hx:=bI h▸hx
  have:i-row.length=0:=by
   rcases dX (i-row.length) with h | h
   ·exact h
   ·rewrite [bt (by simp;exact bK h)] at hx;exact (bw hx).elim
  replace hx:=this▸hx
  exact .inr ⟨JI h this,(aO hx).symm⟩
theorem yf{l x:Int}{i:Nat}(hx:row[i]? =some x):(row++[l])[i]? =some x:=af (bN (ag.mp hx).1) hx
theorem t3.let_{W:(Int->Prop)->Prop}(C:t3 W S)(h:eG S.begins S.row.length=0->∀K,W K->K l):t3 W (j8 S l c):=by
 refine ⟨C.c0,C.c1,λ i x hi h0 w hw=>?_,λ w h1 h2=>C.c4 w h1 λ i x hi h0=>h2 i x (yf hi) h0⟩
 have hi' :(S.row++[l])[i]? =some x:=hi
 (try clear hi);rcases mj hi' with q | ⟨rfl,rfl⟩
 ·exact C.c2 i x q h0 w hw
 ·exact h h0 w hw
theorem v8.let_{W:(Int->Prop)->Prop}(T:kt N S)(C:v8 W as S)(h:eG S.begins S.row.length<=as.length->∀K,W K->(∀a∈as,K a)->K l)(h3:S.row.length∈S.begins->eG S.begins S.row.length<=as.length->l∈as):v8 W as (j8 S l c):=by
 refine ⟨λ k a b ha hb=>?_,λ i x hi h0 w hw hA=>?_,λ i x hi hb h0=>(mj (l:=l) hi).elim (λ q=>C.d3 i x q hb h0) λ q=>q.2▸h3 (q.1▸hb) (q.1▸h0)⟩
 ·have hb' :S.begins[k]? =some b:=hb
  have:=C.d1 k a b ha hb'
  refine (?_:a∈(S.row++[l]).take ((S.begins[k+1]?).getD (S.row++[l]).length))
  cases e:S.begins[k+1]? with
  | none=>
   replace this:=e▸this
   exact ((ah aX (ak _ (bU _ _ this))):a∈(S.row++[l]).take (S.row++[l]).length)
  | some b' =>
   replace this:=e▸this
   exact ((ah (df (T.be b' (am e))) this):a∈(S.row++[l]).take b')
 ·have hi' :(S.row++[l])[i]? =some x:=hi
  (try clear hi);rcases mj hi' with q | ⟨rfl,rfl⟩
  ·exact C.d2 i x q h0 w hw hA
  ·exact h h0 w hw hA
theorem qF:∀(c:List Int) (S:SS),∃w,(c.foldl (λ S l=>fz S l (S.rows.length-1)) S)=(S.uWatch w)
 | [],S=>⟨S.watch,rfl⟩
 | l::c,S=>aS (qF c (fz S l (S.rows.length-1))) λ w hw=>⟨w,af en (af hw rfl)⟩
theorem iq(S:SS)(c:List Int):∃w,gl S c=((S.uRows (S.rows++[c])).uWatch w):=aS (qF (c.take 2) (S.uRows (S.rows++[c]))) λ w hw=>⟨w,hw⟩
theorem kt.newrow(T:kt N S)(c:List Int):kt N (gl S c):=aS (iq S c) λ w e=>(ah e (T.turn rfl rfl rfl rfl rfl λ k r hr=>⟨r,tR.mpr (.inl hr),λ x=>kE⟩))
theorem t3.newrow{W:(Int->Prop)->Prop}(C:t3 W S)(h:∀K,W K->clo K c):t3 W (gl S c):=by
 refine aS (iq S c) λ v e=>(ah e ⟨C.c0,λ r hr w hw=>?_,C.c2,λ w h1 h2=>C.c4 w (λ r hr=>h1 r (ak _ hr)) h2⟩)
 rcases aw.mp hr with hr | hr
 ·exact C.c1 r hr w hw
 ·exact ah (al.mp hr) (h w hw)
theorem v8.newrow{W:(Int->Prop)->Prop}(C:v8 W as S)(c:List Int):v8 W as (gl S c):=aS (iq S c) λ v e=>(ah e ⟨C.d1,C.d2,C.d3⟩)
theorem ix(S:SS)(k:Nat):(bT S k).heats=S.heats/\(bT S k).lock=S.lock/\(bT S k).limit=S.limit/\(bT S k).clashes=S.clashes/\(bT S k).refuted=S.refuted/\(bT S k).log=S.log/\(bT S k).blamed=S.blamed/\(bT S k).rows=S.rows/\(bT S k).watch=S.watch:=by
 unfold bT
 split at⊢
 ·exact Hd rfl rfl rfl rfl rfl rfl rfl rfl rfl
 ·refine lh (gJ (S.row.length-‹Nat›) S) λ V V V e=>?_;exact ah e (Hd rfl rfl rfl rfl rfl rfl rfl rfl rfl)
structure Lv(N:Nat)(W:(Int->Prop)->Prop)(as:List Int)(S:SS):Prop where
 cr:Cr N W as S
 wt:l4 N S 0 []
 wi:∀(i:Nat) (r:List Int),S.rows[i]? =some r->ow (S.row.take S.seen) S.row r
 wb:∀b∈S.begins,∀(i:Nat) (r:List Int),S.rows[i]? =some r->ow (S.row.take b) (S.row.take b) r
 bs:∀b∈S.begins,b<=S.seen
 sl:S.seen<=S.row.length
theorem Lv.js{W:(Int->Prop)->Prop}(L:Lv N W as S):JS N W as S S:=⟨L.cr,L.wt,L.wi,L.wb,L.bs,L.sl,pS.refl S⟩
theorem JS.lv{W:(Int->Prop)->Prop}(L:JS N W as S0 S):Lv N W as S:=⟨L.cr,L.wt,L.wi,L.wb,L.bs,L.sl⟩
theorem Ck(T:kt N S)(h:S.row[i]? =some (-x)):j_ S x=eG S.begins i:=by
 have:=T.ht i _ h
 replace this:=(bO ..)▸this
 unfold j_;exact ah this rfl
structure Op(S S' :SS)(d:Int)(c:List Int)(h b:Nat):Prop where
 hb:S.begins[h]? =some b
 nb:b∉S.begins.take h
 begins:S'.begins=S.begins.take h
 row:S'.row=S.row.take b++[d]
 seen:S'.seen=b
 rows:S'.rows.length<=S.rows.length+1
 log:S'.log=S.log++[c]
 heats:S'.heats=S.heats
 lock:S'.lock=S.lock
 limit:S'.limit=S.limit
 clashes:S'.clashes=S.clashes
 refuted:S'.refuted=S.refuted
theorem Cr.more{W W' :(Int->Prop)->Prop}(C:Cr N W as S)(hW:∀K,W' K->W K)(h4:∀w,W (Lw w)->W' (Lw w)):Cr N W' as S:=
 ⟨C.trl,⟨λ K h=>C.snd.c0 K (hW K h),λ r hr K h=>C.snd.c1 r hr K (hW K h),λ i l a b K h=>C.snd.c2 i l a b K (hW K h),λ w a b=>h4 w (C.snd.c4 w a b)⟩,⟨C.asm.d1,λ i l a b K h=>C.asm.d2 i l a b K (hW K h),C.asm.d3⟩⟩
open Classical in
theorem tF{w:Nat->Bool}{t:List Int}(h0:∀x∈t,x≠0)(h:(∀x∈t,Lw w (-x))->False):clo (Lw w) t:=by
 by_cases e:∃x∈t,Lw w x
 ·exact sB e
 ·exact (h λ x hx=>DM (h0 x hx) λ q=>e ⟨x,hx,q⟩).elim
theorem B8{W W' :(Int->Prop)->Prop}(hW:∀K,W' K->W K/\clo K t)(h4:∀w,W (Lw w)->clo (Lw w) t->W' (Lw w))(C:Cr N W as S)(wt:l4 N S 0 [])(wb:∀b∈S.begins,∀(i:Nat) (r:List Int),S.rows[i]? =some r->ow (S.row.take b) (S.row.take b) r)
  (hne:S.begins≠[]) (ht:Jf N W S t) (hd:t=d::t.tail) (hp:τ.Perm t.tail) (hs:τ.Pairwise (λ x y=>j_ S y<=j_ S x)):
  Lv N W' as (jT S d c τ)/\∃h b,Op S (jT S d c τ) d c h b:=by
 have VF:=ht.vars C.trl
 have C' :Cr N W' as S:=C.more (λ K h=>(hW K h).1) λ w hw=>h4 w hw (tF (λ x hx=>nz (VF x hx)) (ht.sem _ hw))
 obtain ⟨⟨j,l,tl,rfl,hl,hlj,TN⟩,hnd,UY⟩:=ht
 obtain rfl:-l=d:=(rj hd).1
 have hp' :τ.Perm tl:=hp
 clear hd hp
 have hl0:l≠0:=C.trl.nz (am hl)
 have hcur:0<S.begins.length:=nF.mpr hne
 have hτ:∀x∈τ,∃i:Nat,S.row[i]? =some (-x)/\0<eG S.begins i/\eG S.begins i<S.begins.length:=λ x hx=>TN x (hp'.mem_iff.mp hx)
 obtain ⟨h,hdef⟩:∃h:Nat,(τ=[]/\h=0)\/(∃x RL,τ=x::RL /\h=j_ S x):=match τ with
  | []=>⟨0,.inl ⟨rfl,rfl⟩⟩
  | x::RL =>⟨j_ S x,.inr ⟨x,RL,rfl,rfl⟩⟩
 have hmax:∀x∈τ,∃i:Nat,S.row[i]? =some (-x)/\0<eG S.begins i/\eG S.begins i<=h:=λ x hx=>by
  (try clear hp');refine c9 (hτ x hx) λ i a b V=>(fW i a b ?_)
  have e:=Ck C.trl a
  clear hτ;rcases hdef with ⟨rfl,_⟩ | ⟨y,RL,rfl,rfl⟩
  ·cases hx
  ·rcases aL.mp hx with rfl | hx
   ·exact aC (dE e)
   ·have:=(jN.mp hs).1 x hx;exact xb e this
 have hτe:τ≠[]->∃i x,x∈τ/\S.row[i]? =some (-x)/\eG S.begins i=h/\τ.head? =some x:=λ q=>by
  clear hmax hp' hs;rcases hdef with ⟨rfl,_⟩ | ⟨y,RL,rfl,rfl⟩
  ·exact absurd rfl q
  ·exact c9 (hτ y (.head _)) λ i a b V=>(pn i y (.head _) a ((Ck C.trl a).symm) rfl)
 have hτ0:τ=[]->h=0:=λ e=>by
  clear hmax hp' hs hτ hτe;rcases hdef with ⟨_,rfl⟩ | ⟨y,RL,rfl,rfl⟩
  ·rfl
  ·cases e
 have hh:h<S.begins.length:=by
  by_cases e:τ=[]
  ·exact ah (hτ0 e) hcur
  ·refine jk (hτe e) λ i x hx a b V=>(c9 (hτ x hx) λ i' a' V b' =>?_)
   have:=C.trl.tr.inj a a' rfl
   (try clear a');subst this;exact yb b b'
 have hb:S.begins[h]? =some S.begins[h]:=aA hh
 (try clear hs);generalize S.begins[h]=b at hb
 --before b
 have hlt:∀{i:Nat},eG S.begins i<=h->i<b:=λ{i} q=>by
  rcases cx i b with g | g
  ·exact g
  ·have:=B4 C.trl.bs hb g;exact KD this q
 have hbelow:∀b' ∈S.begins.take h,b' <b:=λ b' hb' =>by
  refine aS (aK.mp hb') λ k hk=>?_
  replace hk:=bv▸hk
  split at hk
  ·rename_i Ux
   have hte:τ≠[]:=λ e=>by replace Ux:=hτ0 e▸Ux;exact dq (au (bb _) Ux) rfl
   refine jk (hτe hte) λ i x hx a e V=>?_
   have hib:=hlt (aC e)
   rcases cx i b' with q | q
   ·have:=wS C.trl.bs hk q;exact KC Ux e this
   ·exact au q hib
  ·exact (bw hk).elim
 have hbelow2:∀b' ∈S.begins.take h,∀x,τ.head? =some x->-x∉S.row.take b' :=λ b' hb' x hx hm=>by
  refine aS (aK.mp hb') λ k hk=>?_
  replace hk:=bv▸hk
  split at hk
  ·rename_i Ux
   refine jk (hτe (λ e=>by replace hx:=e▸hx;exact (bw hx).elim)) λ i x' V a e hx' =>?_
   replace hx' :=hx▸hx';(try clear hx);have QI:=sI hx';clear hx';subst QI
   refine aS (aK.mp hm) λ i' hi' =>?_
   replace hi' :=bv▸hi'
   split at hi'
   ·rename_i hib
    have:=C.trl.tr.inj a hi' rfl
    (try clear hi');subst this
    have:=wS C.trl.bs hk hib;exact dq (au this Ux) (dE e)
   ·exact (bw hi').elim
  ·exact (bw hk).elim
 have hnb:b∉S.begins.take h:=λ q=>bP _ (hbelow b q)
 have hle:=C.trl.be b (am hb)
 have hjb:b<=j:=by
  rcases cx j b with q | q
  ·have:=wS C.trl.bs hb q;exact KB hh hlj this
  ·exact q
 have hlnot:l∉S.row.take b/\-l∉S.row.take b:=by
  constructor
  ·intro q
   refine aS (aK.mp q) λ i hi=>?_
   replace hi:=bv▸hi
   split at hi
   ·have:=C.trl.tr.inj hi hl rfl;exact dq (aq (by assumption) hjb) (dE this)
   ·exact (bw hi).elim
  ·intro q
   refine aS (aK.mp q) λ i hi=>?_
   replace hi:=bv▸hi
   split at hi
   ·have:=C.trl.tr.inj hi hl (bO l);exact dq (aq (by assumption) hjb) (dE this)
   ·exact (bw hi).elim
 --the parts
 let S1:SS:=(S.uLog (S.log++[c]))
 have C1:Cr N W' as S1:=C'.turn rfl rfl rfl rfl rfl ⟨rfl,λ V r h=>⟨r,h,.refl _⟩⟩
 have hb1:S1.begins[h]? =some b:=hb
 have C2:=C1.back h
 (try clear hs);refine sw (kg hb1 hle) λ e1 e2 e3 e4 e5 e6 e7=>?_
 clear hb1;refine CE (ix S1 h) λ f1 f2 f3 f4 f5 f6 f7 V V=>?_
 have hwt2:l4 N (bT S1 h) 0 []:=wt.same e6 e7
 generalize hS2:bT S1 h=S2 at*
 have r1:S2.row=S.row.take b:=e1
 have r2:S2.begins=S.begins.take h:=e2
 have r6:S2.rows=S.rows:=e6
 have hrl:S2.row.length=b:=by exact ah r1 (af ce (dz hle))
 have hsays:says S2 (-l)=none:=by
  rcases C2.trl.tr.cases (l:=-l) (by exact KA hl0) with ⟨_,q⟩ | ⟨_,q⟩ | ⟨q,_,_⟩
  ·replace q:=r1▸q;exact absurd q hlnot.2
  ·replace q:=(dN ..)▸r1▸q;exact absurd q hlnot.1
  ·exact q
 have hv:=VF (-l) (.head _)
 have hbl:∀b' ∈S2.begins,b' <S2.row.length:=λ b' q=>by replace q:=r2▸q;exact ah hrl (hbelow b' q)
 have hlev:eG S2.begins S2.row.length=h:=by
  refine af (mr C2.trl.be) (ah r2 (af ce ?_));exact dz (aP hh)
 --what the lesson says
 have hsem2:∀K,W' K->(∀x∈τ,K (-x))->K (-l):=λ K hw hq=>((hW K hw).2 (-l) λ x hx hne=>hq x (by
  rcases aL.mp hx with rfl | hx
  ·exact absurd rfl hne
  ·exact hp'.mem_iff.mpr hx)).2
 have hu0:eG S2.begins S2.row.length=0->∀K,W' K->K (-l):=λ q K hw=>by
  refine hsem2 K hw λ x hx=>(c9 (hmax x hx) λ i a b1 c1=>?_)
  exact C.snd.c2 i _ a (bx (ac c1 (aC (hlev.symm.trans q))) (bb _)) K (hW K hw).1
 have hu1:eG S2.begins S2.row.length<=as.length->∀K,W' K->(∀a∈as,K a)->K (-l):=λ q K hw hA=>by
  exact hsem2 K hw λ x hx=>(c9 (hmax x hx) λ i a b1 c1=>(C.asm.d2 i _ a (by exact ac c1 (xb hlev q)) K (hW K hw).1 hA))
 --old rows at rest
 have hold:∀(i:Nat) (r:List Int),S.rows[i]? =some r->ow (S.row.take b) (S.row.take b) r:=wb b (am hb)
 have holdb:∀b' ∈S.begins.take h,∀(i:Nat) (r:List Int),S.rows[i]? =some r->ow (S.row.take b') (S.row.take b') r:=λ b' q=>wb b' (bU _ _ q)
 have htk:∀b',b' <=b->∀d:Int,(S.row.take b++[d]).take b' =S.row.take b' :=λ b' q d=>by
  exact af (df (by refine ah ce ?_;exact ud.mpr ⟨q,ac q hle⟩)) (af ik (ah (dz q) rfl))
 clear e2 hh hlev hsem2 hτ hτ0 hτe;rcases hdef with ⟨rfl,rfl⟩ | ⟨x,RL,rfl,rfl⟩
 ·--a unit
  have e:jT S (-l) c []=j8 S2 (-l) none:=by exact dI hS2 rfl
  refine ah e ?_
  have hbn:S2.begins=[]:=by exact af r2 rfl
  refine ⟨⟨⟨C2.trl.let_ hsays hv (λ k hk=>by exact (bw hk).elim) (λ V=>rfl) (λ V q=>absurd hbn q),C2.snd.let_ hu0,C2.asm.let_ C2.trl hu1 λ q=>absurd (hbl _ q) (bP _)⟩,hwt2.same rfl rfl,λ i r hr=>?_,λ b' hb' =>?_,λ b' hb' =>?_,?_⟩,0,b,hb,hnb,r2,by exact ((ah r1 rfl):S2.row++[-l]=_),e3,by exact ((ah r6 (dR _)):S2.rows.length<=_),f6,f1,f2,f3,f4,f5⟩
  ·have hr' :S2.rows[i]? =some r:=hr
   replace hr' :=r6▸hr'
   refine ((ah r1 (ah e3 ?_)):ow ((S2.row++[-l]).take S2.seen) (S2.row++[-l]) r);rewrite [htk b (az _)]
   exact (hold i r hr').mono (λ V h=>h) λ V h=>ak _ h
  ·have Ra :b' ∈S2.begins:=hb'
   replace Ra :=hbn▸Ra;cases Ra
  ·have Ra :b' ∈S2.begins:=hb'
   replace Ra :=hbn▸Ra;cases Ra
  ·exact ((ah e3 (ah av (ah hrl (aB _ _)))):S2.seen<=(S2.row++[-l]).length)
 ·--a row
  have e:jT S (-l) c (x::RL)=j8 (gl S2 (-l::x::RL)) (-l) (some S.rows.length):=by exact dI hS2 rfl
  refine ah e ?_
  have hgood:Good N (-l::x::RL):=by
   have hpp:(-l::x::RL).Perm (-l::tl):=hp'.cons _
   exact du (by simp) (((hpp.map bB).nodup_iff).mpr hnd) (λ y hy=>VF y (hpp.mem_iff.mp hy))
  have T3:=C2.trl.newrow (-l::x::RL)
  have N3:=C2.snd.newrow (c:=-l::x::RL) λ K hw=>vq (hp'.cons (-l)) (hW K hw).2
  have A3:=C2.asm.newrow (-l::x::RL)
  have W3:=hwt2.keep hgood
  have hxb:-x∈S.row.take b:=by
   exact c9 (hmax x (.head _)) λ i a V c1=>(aK.mpr ⟨i,by exact af bv (af (if_pos (hlt c1)) a)⟩)
  refine aS (iq S2 (-l::x::RL)) λ Zd e8=>?_
  generalize hS3:gl S2 (-l::x::RL)=S3 at*
  have g1:S3.row=S.row.take b:=by exact ah e8 r1
  have g2:S3.begins=S.begins.take (j_ S x):=by exact ah e8 r2
  have g3:S3.rows=S.rows++[-l::x::RL]:=by exact ah e8 (((ah r6 rfl):S2.rows++_=_))
  have g4:S3.seen=b:=by exact ah e8 e3
  have g5:says S3 (-l)=none:=by exact ah e8 hsays
  have g6:S3.row.length=b:=by exact ah g1 (dI r1 hrl)
  have g7:eG S3.begins S3.row.length=eG S2.begins S2.row.length:=by exact ah g2 (ah g6 (dI r2 (ah hrl rfl)))
  refine ⟨⟨⟨T3.let_ g5 hv (λ k hk=>?_) (λ q=>?_) (λ V V=>⟨_,rfl⟩),N3.let_ (by exact ah g7 hu0),A3.let_ T3 (by exact ah g7 hu1) λ q=>by replace q:=g2▸g6▸q;exact absurd q hnb⟩,W3.same rfl rfl,λ i r hr=>?_,λ b' hb' i r hr=>?_,λ b' hb' =>?_,?_⟩,j_ S x,b,hb,hnb,g2,by exact ((ah g1 rfl):S3.row++[-l]=_),g4,by exact ((ah g3 (ah av (az _))):S3.rows.length<=_),by exact ((ah e8 f6):S3.log=_),by exact ((ah e8 f1):S3.heats=_),by exact ((ah e8 f2):S3.lock=_),by exact ((ah e8 f3):S3.limit=_),by exact ((ah e8 f4):S3.clashes=_),by exact ((ah e8 f5):S3.refuted=_)⟩
  ·have QL:=sI hk;clear hk;subst QL
   refine fW (-l::x::RL) (by exact ah g3 (tR.mpr (.inr ⟨rfl,rfl⟩))) (.head _) (λ y hy hne=>?_)
   refine ah g1 ?_
   rcases aL.mp hy with rfl | hy
   ·exact absurd rfl hne
   ·exact c9 (hmax y hy) λ i a V c1=>(aK.mpr ⟨i,by exact af bv (af (if_pos (hlt c1)) a)⟩)
  ·replace q:=g2▸g6▸q;exact absurd q hnb
  ·have hr' :S3.rows[i]? =some r:=hr
   refine ((ah g1 (ah g4 ?_)):ow ((S3.row++[-l]).take S3.seen) (S3.row++[-l]) r);rewrite [htk b (az _)]
   replace hr' :=g3▸hr'
   (try clear hr);rcases tR.mp hr' with hr' | ⟨_,rfl⟩
   ·exact (hold i r hr').mono (λ V h=>h) λ V h=>ak _ h
   ·exact fm.mpr ⟨λ q=>absurd (by rwa [dN] at q) hlnot.1,λ V=>by simp⟩
  ·have Ra :b' ∈S3.begins:=hb'
   have hr' :S3.rows[i]? =some r:=hr
   replace Ra :=g2▸Ra
   refine ((ah g1 ?_):ow ((S3.row++[-l]).take b') ((S3.row++[-l]).take b') r);rewrite [htk b' (aP (hbelow b' Ra))]
   replace hr' :=g3▸hr'
   (try clear hr);rcases tR.mp hr' with hr' | ⟨_,rfl⟩
   ·exact holdb b' Ra i r hr'
   ·refine fm.mpr ⟨λ q=>?_,λ q=>absurd q (hbelow2 b' Ra x rfl)⟩
    replace q:=(dN ..)▸q
    refine absurd ?_ hlnot.1
    have:S.row.take b' =(S.row.take b).take b' :=by exact ah ik (ah (dz (aP (hbelow b' Ra))) rfl)
    replace q:=this▸q
    exact bU _ _ q
  ·have Ra :b' ∈S3.begins:=hb'
   replace Ra :=g2▸Ra
   exact ((ah g4 (aP (hbelow b' Ra))):b' <=S3.seen)
  ·exact ((ah g4 (ah av (ah g6 (aB _ _)))):S3.seen<=(S3.row++[-l]).length)
end
section
structure D2(as:List Int)(S:SS):Prop where
 d1:∀(k b:Nat),S.begins[k]? =some b->k<=as.length+b
 d2:S.begins.length<=as.length+S.row.length
noncomputable def DJ(as:List Int)(S:SS)(l:Int):Prop:=(as[S.begins.length]? =some l/\says S l≠some false)\/(as.length<=S.begins.length/\says S l=none)
theorem t3.begin_{W:(Int->Prop)->Prop}(C:t3 W S):t3 W (S.uBegins (S.begins++[S.row.length])):=by
 have hlev:∀(i:Nat) (l:Int),S.row[i]? =some l->eG (S.begins++[S.row.length]) i=eG S.begins i:=λ i l hi=>af (jh ..) (ah (nQ (bs:=[S.row.length]) (λ b hb=>ah (al.mp hb) ((ag.mp hi).1))) (af (jG ..) rfl))
 exact ⟨C.c0,C.c1,λ i l hi h0=>C.c2 i l hi (Bi (hlev i l hi) h0),λ w h1 h2=>C.c4 w h1 λ i l hi h0=>h2 i l hi (((af (hlev i l hi) h0):eG (S.begins++[S.row.length]) i=0))⟩
theorem tJ{n k b:Nat}(h:(bs++[n])[k]? =some b):bs[k]? =some b\/(k=bs.length/\b=n):=by
 rcases cx k bs.length with q | q
 ·replace h:=bN q▸h;exact .inl h
 ·replace h:=bI q▸h
  rcases dX (k-bs.length) with e | e
  ·replace h:=e▸h;exact .inr ⟨JI q e,(aO h).symm⟩
  ·rewrite [bt (by simp;exact bK e)] at h;exact (bw h).elim
theorem IM{W:(Int->Prop)->Prop}(L:Lv N W as S)(D:D2 as S)(hq:S.row.length<=S.seen)(hv:1<=l.natAbs/\l.natAbs<=N)(ht:DJ as S l):
  Lv N W as (ka S l)/\D2 as (ka S l)/\(ka S l).begins.length=S.begins.length+1/\(∀i,oE S i=true->oE (ka S l) i=true)/\
  (ka S l).heats=S.heats/\(ka S l).lock=S.lock/\(ka S l).limit=S.limit/\(ka S l).clashes=S.clashes/\(ka S l).refuted=S.refuted/\(ka S l).log=S.log/\(ka S l).blamed=S.blamed/\(ka S l).rows=S.rows:=by
 obtain ⟨⟨T,C,A⟩,wt,wi,wb,bs,sl⟩:=L
 have hsn:S.seen=S.row.length:=bx sl hq
 have hl0:l≠0:=λ e=>by replace hv:=e▸hv;simp at hv
 have T1:=T.begin_
 have C1:=C.begin_
 have hlev:∀(i:Nat),i<S.row.length->eG (S.begins++[S.row.length]) i=eG S.begins i:=λ i hi=>af (jh ..) (ah (nQ (bs:=[S.row.length]) (λ b hb=>ah (al.mp hb) hi)) (af (jG ..) rfl))
 have hlevn:eG (S.begins++[S.row.length]) S.row.length=S.begins.length+1:=af (mr T1.be) (af av (ah aG rfl))
 have hwi:∀(i:Nat) (r:List Int),S.rows[i]? =some r->ow S.row S.row r:=λ i r hr=>by
  have:=wi i r hr;replace this:=aX▸hsn▸this;exact this
 --what was assumed before
 have Ix:∀(k:Nat) (a:Int) (b:Nat),as[k]? =some a->S.begins[k]? =some b->a∈S.row.take (((S.begins++[S.row.length])[k+1]?).getD 0):=λ k a b ha hb=>by
  have:=A.d1 k a b ha hb
  have hkl:=(ag.mp hb).1
  rcases cx (k+1) S.begins.length with q | q
  ·refine ah (bN q) (ah (aA q) ?_)
   replace this:=aA q▸this;exact this
  ·have e:k+1=S.begins.length:=bx (bK hkl) q
   refine ah e (ah (bI (az _)) (ah (gC ..) ?_))
   replace this:=bt (az _)▸e▸this;exact this
 have hd1' :∀(k:Nat) (b:Nat),S.begins[k]? =some b->∃b',(S.begins++[S.row.length])[k+1]? =some b' /\b' <=S.row.length:=λ k b hb=>by
  have hkl:=(ag.mp hb).1
  have:k+1<(S.begins++[S.row.length]).length:=ah av (ah aG (Nat.add_lt_add_right hkl _))
  exact cC _ (aA this) (T1.be _ (iL this))
 have hbb:∀(k b:Nat),(S.begins++[S.row.length])[k]? =some b->k<=as.length+b:=λ k b hb=>by
  rcases tJ hb with h | ⟨h1,h2⟩
  ·exact D.d1 k b h
  ·have:=D.d2;exact Lx h1 h2 this
 unfold ka
 cases hs:says S l with
 | none=>
  have h1:says (S.uBegins (S.begins++[S.row.length])) l=none:=hs
  refine CB ⟨⟨T1.let_ h1 hv (λ k hk=>(bw hk).elim) (λ V=>rfl) (λ q=>absurd (ai _ (.head _)) q),C1.let_ (λ q=>?_),⟨λ k a b ha hb=>?_,λ i x hi h0 w hw hA=>?_,λ i x hi VZ h0=>?_⟩⟩,wt.same rfl rfl,λ i r hr=>?_,λ b hb i r hr=>?_,λ b hb=>?_,?_⟩ ⟨hbb,?_⟩ ?_ (λ i hi=>?_) rfl rfl rfl rfl rfl rfl rfl rfl
  ·have q' :eG (S.begins++[S.row.length]) S.row.length=0:=q
   replace q' :=hlevn▸q';cases q'
  ·have hb' :(S.begins++[S.row.length])[k]? =some b:=hb
   refine (?_:a∈(S.row++[l]).take (((S.begins++[S.row.length])[k+1]?).getD (S.row++[l]).length))
   clear h1 hb hl0 hs hv;rcases tJ hb' with h | ⟨rfl,rfl⟩
   ·refine aM (hd1' k b h) λ b' e hle=>?_
    have:=Ix k a b ha h
    rw [e] at this⊢
    exact ((ah (df hle) this):a∈(S.row++[l]).take b')
   ·refine ah (bt (ah av (ah aG (az _)))) ?_
    refine ((ah aX ?_):a∈(S.row++[l]).take (S.row++[l]).length)
    rcases ht with ⟨q,_⟩ | ⟨q,_⟩
    ·replace ha:=q▸ha;clear q;have QI:=sI ha;clear ha;subst QI;simp
    ·replace ha:=bt q▸ha;exact (bw ha).elim
  ·have hi' :(S.row++[l])[i]? =some x:=hi
   have h0' :eG (S.begins++[S.row.length]) i<=as.length:=h0
   clear h0 h1 hi hl0 hs hv;rcases mj hi' with q | ⟨rfl,rfl⟩
   ·replace h0' :=hlev i (ag.mp q).1▸h0'
    exact A.d2 i x q h0' w hw hA
   ·replace h0' :=hlevn▸h0'
    rcases ht with ⟨q,_⟩ | ⟨q,_⟩
    ·exact hA _ (am q)
    ·exact absurd h0' (uc.mpr (eh q))
  ·have hi' :(S.row++[l])[i]? =some x:=hi
   have h0' :eG (S.begins++[S.row.length]) i<=as.length:=h0
   have hb' :i∈S.begins++[S.row.length]:=VZ
   rcases mj hi' with q | ⟨rfl,rfl⟩
   ·have hi2:=(ag.mp q).1
    replace h0' :=hlev i hi2▸h0'
    exact A.d3 i x q ((aw.mp hb').elim id λ e=>absurd hi2 (by rw [al.mp e];exact bP _)) h0'
   ·replace h0' :=hlevn▸h0'
    rcases ht with ⟨q,_⟩ | ⟨q,_⟩
    ·exact am q
    ·exact absurd h0' (uc.mpr (eh q))
  ·exact ((ah (df sl) ((wi i r hr).mono (λ V h=>h) λ V h=>ak _ h)):ow ((S.row++[l]).take S.seen) (S.row++[l]) r)
  ·have hb' :b∈S.begins++[S.row.length]:=hb
   have hle:=T1.be b hb'
   refine ((ah (df hle) ?_):ow ((S.row++[l]).take b) ((S.row++[l]).take b) r)
   rcases aw.mp hb' with h | h
   ·exact wb b h i r hr
   ·exact ah (al.mp h) (ah aX (hwi i r hr))
  ·have hb' :b∈S.begins++[S.row.length]:=hb
   exact ac (T1.be b hb') hq
  ·exact ((ah av (ac sl (aB _ _))):S.seen<=(S.row++[l]).length)
  ·refine (?_:(S.begins++[S.row.length]).length<=as.length+(S.row++[l]).length)
   have:=D.d2
   rw [av,av,aG,aG];exact b8 this _
  ·exact ((af av (ah aG rfl)):(S.begins++[S.row.length]).length=_)
  ·refine aU (iT.mp hi) λ a b=>(iT.mpr ⟨?_,?_⟩)
   ·exact ((ah av (bD a (bn _))):i<(S.row++[l]).length)
   ·exact ((io aw (io al (λ h=>h.elim b λ h=>bu a h))):i∉S.begins++[S.row.length])
 | some tr=>
  (try clear hv);rcases ht with ⟨ha0,W0⟩ | ⟨_,q⟩
  ·have htr:tr=true:=by
    cases tr with
    | true=>rfl
    | false=>exact absurd hs W0
   replace hs:=htr▸hs
   have hlm:=(T.tr.mem_true hl0).mp hs
   have hlt:S.begins.length<as.length:=(ag.mp ha0).1
   refine CB ⟨⟨T1,C1,⟨λ k a b ha hb=>?_,λ i x hi h0 w hw hA=>?_,λ i x hi VZ h0=>?_⟩⟩,wt.same rfl rfl,wi,λ b hb i r hr=>?_,λ b hb=>?_,sl⟩ ⟨hbb,?_⟩ ?_ (λ i hi=>?_) rfl rfl rfl rfl rfl rfl rfl rfl
   ·have hb' :(S.begins++[S.row.length])[k]? =some b:=hb
    refine (?_:a∈S.row.take (((S.begins++[S.row.length])[k+1]?).getD S.row.length))
    clear hb hl0 W0 hs;rcases tJ hb' with h | ⟨rfl,rfl⟩
    ·refine aM (hd1' k b h) λ b' e hle=>?_
     have:=Ix k a b ha h
     rw [e] at this⊢;exact this
    ·refine ah (bt (ah av (ah aG (az _)))) ?_
     refine ((ah aX ?_):a∈S.row.take S.row.length)
     replace ha:=ha0▸ha;clear ha0;have QL:=sI ha;clear ha;subst QL;exact hlm
   ·have hi' :S.row[i]? =some x:=hi
    have h0' :eG (S.begins++[S.row.length]) i<=as.length:=h0
    replace h0' :=hlev i (ag.mp hi').1▸h0'
    exact A.d2 i x hi' h0' w hw hA
   ·have hi' :S.row[i]? =some x:=hi
    have h0' :eG (S.begins++[S.row.length]) i<=as.length:=h0
    have hb' :i∈S.begins++[S.row.length]:=VZ
    have hi2:=(ag.mp hi').1
    replace h0' :=hlev i hi2▸h0'
    exact A.d3 i x hi' ((aw.mp hb').elim id λ e=>absurd hi2 (by rw [al.mp e];exact bP _)) h0'
   ·have hb' :b∈S.begins++[S.row.length]:=hb
    rcases aw.mp hb' with h | h
    ·exact wb b h i r hr
    ·exact ah (al.mp h) (((ah aX (hwi i r hr)):ow (S.row.take S.row.length) (S.row.take S.row.length) r))
   ·have hb' :b∈S.begins++[S.row.length]:=hb
    exact ac (T1.be b hb') hq
   ·exact ((ah av (ah aG (ac (bK hlt) (aB _ _)))):(S.begins++[S.row.length]).length<=as.length+S.row.length)
   ·exact ((af av (ah aG rfl)):(S.begins++[S.row.length]).length=_)
   ·exact aU (iT.mp hi) λ a b=>(iT.mpr ⟨a,(((io aw (io al (λ h=>h.elim b λ h=>bu a h))):i∉S.begins++[S.row.length]))⟩)
  ·replace q:=hs▸q;exact (gY q).elim
noncomputable def AT(S:SS):Nat->Bool:=λ v=>(lk S.known (v:Int)).getD false
theorem ES(h:says S l=some true):AR (AT S) l=true:=by
 unfold says at h
 unfold AR AT
 cases e:lk S.known l.natAbs with
 | none=>replace h:=e▸h;exact (bw h).elim
 | some b=>replace h:=e▸h;exact aO h
theorem Fw{W:(Int->Prop)->Prop}(L:Lv N W as S)(hq:S.row.length<=S.seen)(hk:∀v:Int,1<=v->v<=N->(lk S.known v).isSome)(ha:as.length<=S.begins.length):W (Lw (AT S))/\∀a∈as,Lw (AT S) a:=by
 have T:=L.cr.trl
 have hsn:S.seen=S.row.length:=by have:=L.sl;exact bx this hq
 have hm:∀l∈S.row,Lw (AT S) l:=λ l h=>⟨T.nz h,ES (T.tr.true_ h)⟩
 refine ⟨L.cr.snd.c4 _ (λ r hr=>?_) (λ i l hi V=>hm l (am hi)),λ a h=>?_⟩
 ·refine aS (aK.mp hr) λ i hi=>?_
  have hg:=L.wt.w1 i r hi
  have hw:=L.wi i r hi
  replace hw:=aX▸hsn▸hw
  match r,hg with
  | x::y::t,hg=>
   have hx:=hg.2.2 x (.head _)
   rcases T.tr.cases (l:=x) (nz hx) with ⟨_,q⟩ | ⟨_,q⟩ | ⟨q,_,_⟩
   ·exact cC x (.head _) (hm x q)
   ·exact cC y (.tail _ (.head _)) (hm y ((fm.mp hw).1 q))
   ·have:=hk x.natAbs (bY.mpr hx.1) (bY.mpr hx.2)
    unfold says at q
    cases e:lk S.known x.natAbs with
    | none=>replace this:=e▸this;exact (jD this).elim
    | some b=>replace q:=e▸q;exact (gY q).elim
 ·refine aS (aK.mp h) λ k hk' =>?_
  have hlt:=(ag.mp hk').1
  have:=L.cr.asm.d1 k a _ hk' (aA (aq hlt ha))
  exact hm a (bU _ _ this)
theorem HR{W:(Int->Prop)->Prop}(P:PS N W as S0 S i):∀b∈S.begins,b+2<=S.row.length:=λ b hb=>by
 refine c9 P.cl λ r hr hx QT=>(jl QT λ j l hj hl hv=>?_);clear QT
 have T:=P.cr.trl
 have hjl:=(ag.mp hj).1
 have hbj:b<=j:=by
  rcases cx j b with q | q
  ·have:=sh hb q
   have:=oN S.begins b;lia
  ·exact q
 refine dC λ hlt=>?_
 have e:b=j:=Lu hlt hjl hbj
 have hlast:S.row.length=b+1:=bx (ac (ac (az _) (az _)) (b_ hlt)) (bK (au hbj hjl))
 have hg:=P.wt.w1 i r hr
 have hwi:=P.wb b hb i r hr
 match r,hg with
 | x::y::t,hg=>
  have Tu:=hg.2.2 x (.head _)
  have XE:=hg.2.2 y (.tail _ (.head _))
  have hxy:=hg.ne (i:=0) (j:=1) (x:=x) (y:=y) rfl rfl (by decide)
  have mx:=hx x (.head _)
  have my:=hx y (.tail _ (.head _))
  have split_:∀z:Int,z∈S.row->z∈S.row.take b\/S.row[b]? =some z:=λ z hz=>by
   clear hb hbj hlast hwi;refine aS (aK.mp hz) λ k hk=>?_
   have:=(ag.mp hk).1
   rcases cx k b with q | q
   ·exact .inl (aK.mpr ⟨k,af bv (af (if_pos q) hk)⟩)
   ·have:k=b:=Ls hlt this q
    clear e hlt q;subst this;exact .inr hk
  refine aU (fm.mp hwi) λ w1 w2=>?_
  rcases split_ _ mx with q | q
  ·exact T.tr.not_both (l:=y) (nz XE) (bU _ _ (w1 q)) my
  ·rcases split_ _ my with q' | q'
   ·exact T.tr.not_both (l:=x) (nz Tu) (bU _ _ (w2 q')) mx
   ·replace q' :=q▸q'
    have:=aO q'
    exact Lr this hxy
end
section
theorem Dm{f:List Int}{k x:Int}:x∈iN f k↔x∈f\/x=k:=by
 unfold iN
 by_cases h:k∈f
 ·exact ah (if_pos h) ⟨.inl,λ e=>e.elim id λ e=>e▸h⟩
 ·exact ah (if_neg h) (io aw (io al kE))
theorem mH:∀{g f:List Int} {x:Int},x∈g.foldl iN f↔x∈f\/x∈g
 | [],f,x=>⟨.inl,λ h=>h.elim id λ h=>nomatch h⟩
 | k::g,f,x=>by
  refine ah en (mH.trans ?_)
  refine io Dm (io aL or_assoc)
noncomputable def v7(S:SS)(l:Int)(i:Nat):List Int×List Int:=(S.row.drop i).foldr (λ y p=>d8 S p y) ([l],[(l.natAbs:Int)])
theorem Hf:(S.row.reverse.foldl (d8 S) ([l],[(l.natAbs:Int)]))=v7 S l 0:=List.foldl_reverse
theorem tH(h:S.row.length<=i):v7 S l i=([l],[(l.natAbs:Int)]):=by
 unfold v7;exact ah (List.drop_eq_nil_iff.mpr h) rfl
theorem qN(h:S.row[i]? =some y):v7 S l i=d8 S (v7 S l (i+1)) y:=by
 obtain ⟨hl,e⟩:=ag.mp h
 unfold v7
 exact ah (gD hl) (ah List.foldr_cons (ah e rfl))
theorem yw(T:kt N S)(h:S.row[i]? =some y):j_ S y=eG S.begins i:=by
 have:=T.ht i _ h
 unfold j_;exact ah this rfl
inductive Mo(S:SS)(i:Nat)(y:Int)(p q:List Int×List Int):Prop where
 | low (e:q=p) (h:¬((y.natAbs:Int)∈p.2/\0<eG S.begins i))
 | dec (e:q=(p.1++[y],p.2)) (h:0<eG S.begins i) (b:i∈S.begins)
 | row (r:List Int) (hr:r∈S.rows) (hx:∀x∈r,x≠y->-x∈S.row.take i) (e1:q.1=p.1) (e2:∀x,x∈q.2↔x∈p.2\/∃z∈r,(z.natAbs:Int)=x)
theorem xq(T:kt N S)(h:S.row[i]? =some y)(p:List Int×List Int):Mo S i y p (d8 S p y):=by
 by_cases c:(y.natAbs:Int)∈p.2/\0<j_ S y
 ·have hl:0<eG S.begins i:=yw T h▸c.2
  obtain ⟨o,ho,h1,h2,h3⟩:=T.ca i y h
  cases o with
  | none=>
   refine .dec ?_ hl (dP λ q=>?_)
   ·unfold d8;exact af (if_pos c) (ah ho rfl)
   ·exact aS (h3 q hl) λ c e=>bw e
  | some k=>
   obtain ⟨r,hr,_,hx⟩:=h1 k rfl
   have e:d8 S p y=(p.1,((r.map λ x=>(x.natAbs:Int)).foldl iN []).foldl iN p.2):=by
    unfold d8
    refine af (if_pos c) (ah ho ?_)
    have:S.rows.getD k []=r:=by rw [bJ,hr];rfl
    exact this▸rfl
   refine .row r (am hr) hx (ah e rfl) λ x=>ah e (mH.trans (or_congr_right (mH.trans ?_)))
   exact ⟨λ q=>q.elim (λ q=>nomatch q) λ q=>aJ.mp q,λ q=> .inr (aJ.mpr q)⟩
 ·exact .low (if_neg c) (yw T h▸c)
theorem CZ{W:(Int->Prop)->Prop}(T:kt N S)(C:t3 W S)(hl:-l∈S.row)(K:Int->Prop)(hw:W K):∀(k i:Nat),i+k=S.row.length->
  (∀j y,j<i->S.row[j]? =some y->(y.natAbs:Int)∈(v7 S l i).2->K y)->(∀x∈(v7 S l i).1,K x)->K (-l)
 | 0,i,e,h1,h2=>by
  have e' :v7 S l i=_:=tH (aC e.symm)
  refine aS (aK.mp hl) λ j hj=>h1 j _ (aq (ag.mp hj).1 (aC e.symm)) hj (ah e' ?_)
  exact ah (bO ..) (.head _)
 | k+1,i,e,h1,h2=>by
  have hi:i<S.row.length:=e▸lz (eJ k)
  have hy:=aA hi
  generalize S.row[i]=y at hy
  have B:=xq T hy (v7 S l (i+1))
  rw [<-qN hy] at B
  refine CZ T C hl K hw k (i+1) ((fP i k).trans e) (λ j z hj hz hm=>?_) λ x hx=>?_
  ·rcases cx j i with q | q
   ·refine h1 j z q hz ?_
    cases B with
    | low e=>exact ah e hm
    | dec e=>exact ah e hm
    | row r hr hx e1 e2=>exact (e2 _).mpr (.inl hm)
   ·have ej:j=i:=bx (b_ hj) q
    subst ej
    replace hz:=sI (hy.symm.trans hz);subst hz
    cases B with
    | low e h=>
     refine C.c2 j _ hy (bx (dC λ q=>h ⟨hm,q⟩) (bb _)) K hw
    | dec e h b=>exact h2 _ (ah e (ai _ (.head _)))
    | row r hr hx e1 e2=>
     refine (C.c1 r hr K hw _ λ x TM hne=>?_).2
     have hx' :=hx x TM hne
     refine aS (aK.mp hx') λ a ha=>?_
     replace ha:=bv▸ha
     split at ha
     ·exact h1 a _ (by assumption) ha ((e2 _).mpr (.inr ⟨x,TM,ah (bO ..) rfl⟩))
     ·exact (bw ha).elim
  ·refine h2 x ?_
   cases B with
   | low e=>exact ah e hx
   | dec e=>exact ah e (ak _ hx)
   | row r hr hx' e1 e2=>exact ah e1 hx
theorem C3(T:kt N S):∀(k i:Nat),i+k=S.row.length->∀x∈(v7 S l i).1,x=l\/∃j,S.row[j]? =some x/\j∈S.begins/\0<eG S.begins j
 | 0,i,e,x,hx=>by
  have e' :v7 S l i=_:=tH (aC e.symm)
  replace hx:=e' ▸hx
  exact .inl (al.mp hx)
 | k+1,i,e,x,hx=>by
  have hi:i<S.row.length:=e▸lz (eJ k)
  have hy:=aA hi
  generalize S.row[i]=y at hy
  have B:=xq T hy (v7 S l (i+1))
  rw [<-qN hy] at B
  have ih:=C3 (l:=l) T k (i+1) ((fP i k).trans e)
  cases B with
  | low e=>exact ih x (e▸hx)
  | dec e h b=>
   replace hx:=e▸hx
   rcases aw.mp hx with q | q
   ·exact ih x q
   ·exact .inr ⟨i,(al.mp q)▸hy,b,h⟩
  | row r hr hx' e1 e2=>exact ih x (e1▸hx)
theorem C0(T:kt N S):∀(k i:Nat),i+k=S.row.length->l∈(v7 S l i).1
 | 0,i,e=>by
  have e' :v7 S l i=_:=tH (aC e.symm)
  exact ah e' (.head _)
 | k+1,i,e=>by
  have hi:i<S.row.length:=e▸lz (eJ k)
  have hy:=aA hi
  generalize S.row[i]=y at hy
  have B:=xq T hy (v7 S l (i+1))
  rw [<-qN hy] at B
  have ih:=C0 (l:=l) T k (i+1) ((fP i k).trans e)
  cases B with
  | low e=>exact e▸ih
  | dec e h b=>exact ah e (ak _ ih)
  | row r hr hx' e1 e2=>exact ah e1 ih
theorem CY{W:(Int->Prop)->Prop}(T:kt N S)(C:t3 W S)(hl:-l∈S.row)(K:Int->Prop)(hw:W K)(h:∀x∈(S.row.reverse.foldl (d8 S) ([l],[(l.natAbs:Int)])).1,K x):False:=by
 replace h:=Hf (S:=S) (l:=l)▸h
 exact C.c0 K hw l (h l (C0 T S.row.length 0 (l8 _))) (CZ T C hl K hw S.row.length 0 (l8 _) (λ j y q=>absurd q (mN j)) h)
theorem Ag(T:kt N S):∀x∈(S.row.reverse.foldl (d8 S) ([l],[(l.natAbs:Int)])).1,x=l\/∃j,S.row[j]? =some x/\j∈S.begins/\0<eG S.begins j:=λ x hx=>
 C3 T S.row.length 0 (l8 _) x (Hf (S:=S) (l:=l)▸hx)
end
section
noncomputable def Wl(Cl lg:List (List Int))(K:Int->Prop):Prop:=MY K/\(∀c∈Cl,clo K c)/\∀c∈lg,clo K c
theorem Wl.snoc{Cl lg:List (List Int)}{K:Int->Prop}:Wl Cl (lg++[c]) K↔Wl Cl lg K/\clo K c:=
 ⟨λ h=>⟨⟨h.1,h.2.1,λ x hx=>h.2.2 x (ak _ hx)⟩,h.2.2 c (ai _ (.head _))⟩,
  λ h=>⟨h.1.1,h.1.2.1,λ x hx=>(aw.mp hx).elim (h.1.2.2 x) λ q=>(al.mp q)▸h.2⟩⟩
theorem yK{K:Int->Prop}(p:∀x,x∈r' ↔x∈r)(h:clo K r):clo K r' :=λ l k=>by
 have:=h l λ x hx e=>k x ((p x).mpr hx) e
 exact ⟨(p l).mpr this.1,this.2⟩
noncomputable def fY(N:Nat)(Cl lg:List (List Int)):Prop:=∀(k:Nat) (c:List Int),lg[k]? =some c->(c.Nodup/\∀x∈c,1<=x.natAbs/\x.natAbs<=N)/\∀K,Wl Cl (lg.take k) K->(∀x∈c,K (-x))->False
theorem fY.snoc{Cl lg:List (List Int)}(L:fY N Cl lg)(hv:c.Nodup/\∀x∈c,1<=x.natAbs/\x.natAbs<=N)(h:∀K,Wl Cl lg K->(∀x∈c,K (-x))->False):fY N Cl (lg++[c]):=λ k d hk=>by
 rcases cx k lg.length with q | q
 ·replace hk:=bN q▸hk
  exact ⟨(L k d hk).1,λ K hw=>(L k d hk).2 K (df (aP q)▸hw)⟩
 ·replace hk:=bI q▸hk
  have e:k-lg.length=0:=Nat.eq_zero_of_not_pos λ p=>by
   rw [bt (by rw [aG];exact p)] at hk;exact bw hk
  replace hk:=e▸hk
  have:=JI q e;subst this
  replace hk:=sI hk;subst hk
  exact ⟨hv,λ K hw=>h K (by rw [df (az _),aX] at hw;exact hw)⟩
structure q_(N:Nat)(Cl lg0:List (List Int))(bud:Nat)(S:SS):Prop where
 hk:HK N S.heats
 lock:S.lock=none
 b1:S.rows.length<=bud
 b2:S.log.length<=bud
 trl:kt N S
 wt:l4 N S 0 []
 lg:fY N Cl S.log
 pre:lg0<+:S.log
 dead:S.refuted=true->∀K,¬Wl Cl S.log K
 live:S.refuted=false->∃as,Lv N (Wl Cl S.log) as S
structure Iv(N:Nat)(Cl lg0:List (List Int))(as:List Int)(c0 bud:Nat)(lim:Int)(S:SS):Prop where
 hk:HK N S.heats
 lock:S.lock=none
 lim:S.limit=lim
 bl:S.blamed=[]
 lo:c0<=S.clashes
 up:S.clashes<=c0+16
 b1:S.rows.length+c0<=bud+S.clashes
 b2:S.log.length+c0<=bud+S.clashes
 trl:kt N S
 wt:l4 N S 0 []
 lg:fY N Cl S.log
 pre:lg0<+:S.log
 dead:S.refuted=true->∀K,¬Wl Cl S.log K
 live:S.refuted=false->Lv N (Wl Cl S.log) as S/\D2 as S/\S.clashes<=c0+val (oE S) (N-1)
structure M3(N:Nat)(Cl lg0:List (List Int))(as:List Int)(bud:Nat)(S:SS)(b:Bool):Prop where
 rs:q_ N Cl lg0 (bud+17) S
 tru:b=true->Wl Cl S.log (Lw (AT S))/\∀a∈as,Lw (AT S) a
 fls:b=false->((∀x∈S.blamed,x∈as)/\S.blamed.length<=1000)/\∀K,Wl Cl S.log K->(∀x∈S.blamed,K x)->False
structure Ph(N:Nat)(Cl lg0:List (List Int))(c0 bud:Nat)(lim:Int)(S:SS):Prop where
 rs:q_ N Cl lg0 (bud+17) S
 lo:lim<=(S.clashes:Int)-(c0:Int)
 up:S.clashes<c0+16
noncomputable def uY(N:Nat)(as:List Int)(S:SS):Nat:=if S.refuted=true then 0 else (16-val (oE S) (N-1))*(as.length+N+2)+(as.length+N+1-S.begins.length)
theorem Bf(hN:N<=5)(f:Nat->Bool):val f (N-1)<16:=by
 have:=Be f (N-1)
 have h:N-1<=4:=Nat.sub_le_of_le_add hN
 have:2^(N-1)<=2^4:=iX (eJ _) h
 lia
theorem BW(h:a<b)(hx:x<=B):a*(B+1)+x<b*(B+1)+y:=by
 have:(a+1)*(B+1)<=b*(B+1):=AI _ h
 replace this:=(Nat.add_mul ..)▸this
 exact Lq this hx
theorem Lv.gain{W:(Int->Prop)->Prop}(L:Lv N W as S)(e1:S'.known=S.known)(e2:S'.heights=S.heights)(e3:S'.causes=S.causes)(e4:S'.row=S.row)(e5:S'.begins=S.begins)(e6:S'.rows=S.rows)(e7:S'.watch=S.watch)(e8:S'.seen=S.seen):Lv N W as S' :=by
 obtain ⟨cr,wt,wi,wb,bs,sl⟩:=L
 exact ⟨cr.turn e1 e2 e3 e4 e5 ⟨ah e6 rfl,λ c r h=>⟨r,ah e6 h,.refl _⟩⟩,wt.same e6 e7,ah e6 (ah e4 (ah e8 wi)),ah e6 (ah e4 (ah e5 wb)),ah e5 (ah e8 bs),ah e4 (ah e8 sl)⟩
theorem EU(D:D2 as S)(T:kt N S):S.begins.length<=as.length+N:=by
 have:=D.d2;have:=T.len;lia
theorem tg(h0:S.refuted=false)(hN:N<=5)(h:S'.refuted=true\/(val (oE S) (N-1)<val (oE S') (N-1))\/(val (oE S) (N-1)<=val (oE S') (N-1)/\S.begins.length<S'.begins.length/\S.begins.length<=as.length+N)):uY N as S' <uY N as S:=by
 have e:uY N as S=(16-val (oE S) (N-1))*(as.length+N+2)+(as.length+N+1-S.begins.length):=by
  unfold uY;exact af (if_neg (by exact ah h0 dK)) rfl
 refine ah e ?_
 unfold uY
 have hv:=Bf hN (oE S)
 have RP :=Bf hN (oE S')
 have hbig:0<(16-val (oE S) (N-1))*(as.length+N+2):=Nat.mul_pos (pW hv) (eJ _)
 refine eH (λ V=>?_) λ q=>?_
 ·exact aq hbig (aB _ _)
 ·rcases h with h | h | ⟨h1,h2,h3⟩
  ·exact absurd h q
  ·exact BW (B:=as.length+N+1) (fw hv h) (l9 _ _)
  ·have:(16-val (oE S') (N-1))*(as.length+N+2)<=(16-val (oE S) (N-1))*(as.length+N+2):=AI _ (Nat.sub_le_sub_left h1 16)
   exact ue this (fw (eh h3) h2)
theorem pS.val(K:pS S0 S)(n:Nat):val (oE S0) n<=val (oE S) n:=aS K.row λ t ht=>(sO n λ i V h=>(aU (iT.mp h) λ a b=>(iT.mpr ⟨ah ht (ah av (aq a (aB _ _))),ah K.begins b⟩)))
theorem pS.d2(K:pS S0 S)(D:D2 as S0):D2 as S:=aS K.row λ t ht=>⟨ah K.begins D.d1,by refine ah K.begins (ah ht (ah av ?_));have:=D.d2;exact ac this (aV (aB _ _) _)⟩
theorem sC(S:SS):∀(r:List Int) (p:List Int×List Int),(r.foldl (d8 S) p).1.length<=p.1.length+r.length
 | [],p=>az _
 | y::r,p=>by
  refine ac (sC S r (d8 S p y)) ?_
  have:(d8 S p y).1.length<=p.1.length+1:=by
   unfold d8
   refine eH (λ V=>?_) λ V=>dR _
   cases (lk S.causes y.natAbs).getD none with
   | none=>exact ah av (az _)
   | some c=>exact dR _
  rw [bF];lia
theorem HK.same(H:HK N h)(e:h'.map (·.1)=h.map (·.1)):HK N h' :=λ k=>ah e (H k)
theorem Bz{Cl lg0:List (List Int)}{lim:Int}(hN:N<=5)(Td:bud<=30000)(haz:as.length<=1000)(har:∀l∈as,1<=l.natAbs/\l.natAbs<=N):
  mK as c0 (λ S k=>Iv N Cl lg0 as c0 bud lim S/\k=uY N as S) (λ S b=>M3 N Cl lg0 as bud S b) (λ S=>Ph N Cl lg0 c0 bud lim S) where
 refd S k:=by
  intro QI hr;refine aU QI λ I QW=>?_;clear QI;subst QW
  have h1:=I.up;have h2:=I.b1;have h3:=I.b2
  exact ⟨⟨I.hk,I.lock,ac (G6 h2 h1) (dR _),ac (G6 h3 h1) (dR _),I.trl,I.wt,I.lg,I.pre,I.dead,λ h=>by replace h:=hr▸h;exact (ze h).elim⟩,(λ h=>(jD h).elim),λ V=>⟨⟨λ x hx=>by replace hx:=I.bl▸hx;exact (nomatch hx),by rw [I.bl];exact bb _⟩,λ K hw V=>I.dead hr K hw⟩⟩
 turn S k:=by
  intro QL hF hr;refine aU QL λ I QY=>?_;clear QL;subst QY
  refine cu (I.live hr) λ L D hc=>?_
  have hv:=Bf hN (oE S)
  have hlo:=I.lo;have hb1:=I.b1;have hb2:=I.b2
  refine Cz (JS N (Wl Cl S.log) as S) (MS N (Wl Cl S.log) as S) (PS N (Wl Cl S.log) as S) (zr (ac hN (aj _ _)) (Lp hb1 hv hc Td)) L.js (λ S' i P YF =>?_) (λ S' J YF hq=>?_)
  ·have K:=P.kp
   have T:=P.cr.trl
   have hkv:=K.val (N-1)
   have hcl:=K.clashes
   have hS'k:HK N S'.heats:=ah K.heats I.hk
   refine IH (Ou N (Wl Cl S.log) S') (Jf N (Wl Cl S.log) S') (λ hne=>⟨zF (ac hN (aj _ _)) P.cr P.wt.w1 hS'k hne,zG P⟩) (λ t ht=>ht.ok (ac hN (aj _ _)) T) (af K.lock I.lock) T.tr (by refine ah K.log ?_;exact Cu hb2 hv hc Td) (by refine ah K.rows ?_;exact Cu hb1 hv hc Td) (P.wt.wz (by refine ah K.rows ?_;exact Lo hb1 hv hc Td)) (by have:=T.len;exact Ha hN this) (λ h0=>?_) (λ hne S₁ t d c τ g ht hH hd TA hp hs=>?_)
   ·--a clash without a level
    have hno:∀K,¬Wl Cl S.log K:=λ K hw=>by
     refine c9 P.cl λ r hr' hx V=>n0 (P.cr.snd.c0 K hw) (P.cr.snd.c1 r (am hr') K hw) λ x h1=>?_
     exact aS (aK.mp (hx x h1)) λ j hj=>P.cr.snd.c2 j _ hj (by exact ah h0 rfl) K hw
    have T2:kt N (mn (S'.uClashes (S'.clashes+1))):=T.turn rfl rfl rfl rfl rfl λ c r h=>⟨r,h,λ V=>kE⟩
    refine fW _ (tg hr hN (.inl rfl)) ⟨hS'k,by exact ((af K.lock I.lock):S'.lock=none),by exact ((af K.limit I.lim):S'.limit=lim),by exact ((af K.blamed I.bl):S'.blamed=[]),by refine (?_:c0<=S'.clashes+1);exact Er (xc hcl hlo),by refine (?_:S'.clashes+1<=_);exact Ln hv hcl hc,?_,?_,T2,P.wt.same rfl rfl,by refine (?_:fY N Cl (S'.log++[[]]));exact ah K.log (I.lg.snoc ⟨.nil,λ x hx=>nomatch hx⟩ λ K hw V=>hno K hw),by refine (?_:lg0<+:S'.log++[[]]);exact ah K.log (I.pre.trans (jM _ _)),λ V K' (hw:Wl Cl (S'.log++[[]]) K')=>hno K' (by rw [K.log] at hw;exact (Wl.snoc.mp hw).1),λ h=>by exact (ze h).elim⟩ rfl
    ·refine ((ah K.rows ?_):S'.rows.length+c0<=bud+(S'.clashes+1));exact Lm hb1 hcl
    ·refine (?_:(S'.log++[[]]).length+c0<=bud+(S'.clashes+1))
     refine ah av (ah K.log (ah aG ?_));exact Ll hb2 hcl
   ·refine ck hH λ hs' g' Vp QT=>?_;clear hH;subst QT
    dsimp only at Vp
    have C1:Cr N (Wl Cl S.log) as (((S'.uClashes (S'.clashes+1)).uHeats hs').uGain g'):=P.cr.turn rfl rfl rfl rfl rfl ⟨rfl,λ c r h=>⟨r,h,.refl _⟩⟩
    obtain ⟨L2,h,b,G⟩:=B8 (c:=c) (W' :=Wl Cl (S.log++[c])) (λ K h=>⟨(Wl.snoc.mp h).1,yK (λ x=>(TA.2.1 x).symm) (Wl.snoc.mp h).2⟩) (λ w hw h=>Wl.snoc.mpr ⟨hw,yK TA.2.1 h⟩) C1 (P.wt.same rfl rfl) P.wb hne ⟨ht.ex,ht.nd,ht.sem⟩ hd hp hs
    have Wi:=HR P
    clear hp hs;generalize hS2:jT (((S'.uClashes (S'.clashes+1)).uHeats hs').uGain g') d c τ=S2 at*
    have e1:S'.begins[h]? =some b:=G.hb
    have e2:S2.begins=S'.begins.take h:=G.begins
    have e3:S2.row=S'.row.take b++[d]:=G.row
    have e4:b∉S'.begins.take h:=G.nb
    have e5:S2.rows.length<=S'.rows.length+1:=G.rows
    have e6:S2.log=S'.log++[c]:=G.log
    have e6' :S2.log=S.log++[c]:=e6.trans (by rw [K.log])
    have e7:S2.heats=hs' :=G.heats
    have e8:S2.lock=S'.lock:=G.lock
    have e9:S2.limit=S'.limit:=G.limit
    have e10:S2.clashes=S'.clashes+1:=G.clashes
    have e11:S2.refuted=S'.refuted:=G.refuted
    have hbm:b∈S'.begins:=am e1
    have U8 :=Wi b hbm
    have hrl:=T.len
    have hbrl:(S'.row.take b).length=b:=by refine af ce ?_;exact Lj U8
    have hgrow:val (oE S') (N-1)<val (oE S2) (N-1):=by
     refine uz (b:=b) (N-1) (by exact AJ (ac U8 hrl)) (λ i hi hf=>?_) ?_ ?_
     ·refine aU (iT.mp hf) λ a1 a2=>?_
      exact iT.mpr ⟨by refine ah e3 (ah av (ah hbrl ?_));exact Li hi,by refine ah e2 ?_;exact λ q=>a2 (bU _ _ q)⟩
     ·unfold oE;simp [hbm]
     ·exact iT.mpr ⟨by refine ah e3 (ah av (ah hbrl ?_));simp,by refine ah e2 ?_;exact e4⟩
    have hD:=K.d2 D
    have hbl2:S2.blamed=S'.blamed:=by
     refine dI hS2 ?_
     unfold jT
     clear hS2;cases τ with
     | nil=>exact (ix _ _).2.2.2.2.2.2.1
     | cons x RL =>
      refine aS (iq (bT ((((S'.uClashes (S'.clashes+1)).uHeats hs').uGain g').uLog (S'.log++[c])) (j_ (((S'.uClashes (S'.clashes+1)).uHeats hs').uGain g') x)) (d::x::RL)) λ w ew=>?_
      refine (?_:(gl _ _).blamed=_)
      dsimp only
      refine ah ew ?_;exact (ix _ _).2.2.2.2.2.2.1
    refine fW _ (tg hr hN (.inr (.inl (show val (oE S) (N-1)<val (oE (S2.uGain g)) (N-1) from ?_)))) ⟨?_,by refine (?_:S2.lock=none);refine af e8 (af K.lock ?_);exact I.lock,by refine (?_:S2.limit=lim);refine af e9 (af K.limit ?_);exact I.lim,by refine (?_:S2.blamed=[]);refine af hbl2 (af K.blamed ?_);exact I.bl,by refine (?_:c0<=S2.clashes);exact Lh e10 hcl hlo,by refine (?_:S2.clashes<=_);exact Lf hv e10 hcl hc,?_,?_,?_,L2.wt.same rfl rfl,by refine (?_:fY N Cl S2.log);rw [e6'];exact I.lg.snoc ⟨TA.1,λ x hx=>ht.vars T x ((TA.2.1 x).mp hx)⟩ λ K hw k=>ht.sem K hw λ x hx=>k x ((TA.2.1 x).mpr hx),by refine (?_:lg0<+:S2.log);rw [e6'];exact I.pre.trans (jM _ _),λ h=>?_,λ V=>⟨by refine (?_:Lv N (Wl Cl S2.log) as _);rw [e6'];exact L2.gain rfl rfl rfl rfl rfl rfl rfl rfl,⟨λ k b' hb' =>?_,?_⟩,?_⟩⟩ rfl
    ·exact au hkv hgrow
    ·refine (?_:HK N S2.heats)
     refine ah e7 ?_;exact hS'k.same Vp
    ·refine (?_:S2.rows.length+c0<=bud+S2.clashes)
     have:=K.rows;exact Le hb1 e10 hcl this e5
    ·refine (?_:S2.log.length+c0<=bud+S2.clashes)
     refine ah e6 (ah av (ah K.log (ah aG ?_)));exact Ld hb2 e10 hcl
    ·exact (L2.gain (S' :=(S2.uGain g)) rfl rfl rfl rfl rfl rfl rfl rfl).cr.trl
    ·have:S2.refuted=true:=h
     replace this:=hr▸K.refuted▸e11▸this;exact (jD this).elim
    ·have Ra :S2.begins[k]? =some b' :=hb'
     replace Ra :=bv▸e2▸Ra
     split at Ra
     ·exact hD.d1 k b' Ra
     ·exact (bw Ra).elim
    ·refine (?_:S2.begins.length<=as.length+S2.row.length)
     refine ah e2 (ah e3 (ah av (ah hbrl (ah ce ?_))))
     have:=hD.d1 h b e1
     have h2:=aG (a:=d)
     exact Lb this
    ·refine (?_:S2.clashes<=c0+val (oE S2) (N-1))
     exact La hgrow e10 hcl hc hkv
  ·--deciding
   have K:=J.kp
   have T:=J.cr.trl
   have SV :=J.lv
   have hkv:=K.val (N-1)
   have hcl:=K.clashes
   have hS'k:HK N S'.heats:=by refine ah K.heats ?_;exact I.hk
   have hD:=K.d2 D
   have hbb:=EU hD T
   have hlim:S'.limit=lim:=by refine af K.limit ?_;exact I.lim
   have hlock:S'.lock=none:=by refine af K.lock ?_;exact I.lock
   have hrf:S'.refuted=false:=by refine af K.refuted ?_;exact hr
   have rst:q_ N Cl lg0 (bud+17) S' :=⟨hS'k,hlock,by refine ah K.rows (ac ?_ (dR _));exact KZ hb1 hv hc,by refine ah K.log ?_;exact KY hb2 hv hc,T,J.wt,by rw [K.log];exact I.lg,by rw [K.log];exact I.pre,λ h=>(by replace h:=hrf▸h;exact (jD h).elim),λ V=>⟨as,by rw [K.log];exact SV⟩⟩
   have next:∀l,1<=l.natAbs/\l.natAbs<=N->DJ as S' l->∃k',k' <uY N as S/\Iv N Cl lg0 as c0 bud lim (ka S' l)/\k' =uY N as (ka S' l):=λ l hl ht=>by
    refine IL (IM SV hD hq hl ht) λ L2 Y1 g1 g2 g3 g4 g5 g6 g7 g8 g9 YO=>?_
    have hv2:val (oE S') (N-1)<=val (oE (ka S' l)) (N-1):=sO _ λ i V=>g2 i
    refine fW _ (tg hr hN (.inr (.inr ⟨ac hkv hv2,by refine ah g1 (ah K.begins ?_);exact bn _,by refine dI K.begins ?_;exact hbb⟩))) ⟨by refine ah g3 ?_;exact hS'k,by refine af g4 ?_;exact hlock,by refine af g5 ?_;exact hlim,by refine af g9 (af K.blamed ?_);exact I.bl,by refine ah g6 ?_;exact xc hcl hlo,by refine ah g6 ?_;exact K_ hv hcl hc,by refine ah YO (ah g6 (ah K.rows ?_));exact G' hb1 hcl,by refine ah g8 (ah g6 (ah K.log ?_));exact G' hb2 hcl,L2.cr.trl,L2.wt,by rw [g8,K.log];exact I.lg,by rw [g8,K.log];exact I.pre,λ h=>(by replace h:=hrf▸g7▸h;exact (jD h).elim),λ V=>⟨by rw [g8,K.log];exact L2,Y1,by refine ah g6 ?_;exact K9 hcl hc hkv hv2⟩⟩ rfl
   refine ⟨by exact xc hcl hlo,by exact G_ hv hcl hc,λ V h2=>⟨rst,hlim▸h2,by exact G_ hv hcl hc⟩,hlock,λ k hk=>((hS'k k).mp hk).1,by have:=T.len;exact Ha hN this,by exact K8 hbb haz hN,by refine ah K.log ?_;exact Cu hb2 hv hc Td,haz,λ l hl=>by have:=har l hl;exact NT this hN,λ l hl=>⟨λ hs=>?_,λ hs=>?_⟩,λ UA=>⟨λ hall=>?_,λ v hv hn l hl=>?_⟩⟩
   ·have hlm:=am hl
    have SY:=har l hlm
    have hneg:-l∈S'.row:=(T.tr.mem_false (nz SY)).mp hs
    have hlt:=(ag.mp hl).1
    have hfa:∀x∈(S'.row.reverse.foldl (d8 S') ([l],[(l.natAbs:Int)])).1,x∈as:=λ x hx=>by
     rcases Ag T x hx with e | ⟨j,h1,h2,h3⟩
     ·exact e▸hlm
     ·exact SV.cr.asm.d3 j x h1 h2 (ac (oN _ _) (aP hlt))
    have hfz:(S'.row.reverse.foldl (d8 S') ([l],[(l.natAbs:Int)])).1.length<=1000:=by
     have h1:=sC S' S'.row.reverse ([l],[(l.natAbs:Int)])
     have h2:=T.len
     rw [jx,aG] at h1
     lia
    have hbk:∀K,Wl Cl S.log K->(∀x∈(S'.row.reverse.foldl (d8 S') ([l],[(l.natAbs:Int)])).1,K x)->False:=λ K hw h=>CY T SV.cr.snd hneg K hw h
    refine du ⟨λ x hx=>?_,λ x hx=>?_,by have:=T.len;exact K7 hN this⟩ (λ V=>?_) (λ V c TA=>?_)
    ·refine aS (aK.mp hx) λ i hi=>?_
     refine ah (T.ht i x hi) ?_;rfl
    ·refine aS (aK.mp hx) λ i hi=>?_
     refine c9 (T.ca i x hi) λ o h1 h2 V=>?_
     refine cC o h1 (λ c hc=>?_)
     refine aM (h2 c hc) λ r h3 V=>?_
     have hg:=J.wt.w1 c r h3
     exact cC r h3 (by have:=nJ hg.2.1 hg.2.2;exact K6 hN this)
    ·exact ⟨⟨hS'k,hlock,rst.b1,rst.b2,T.turn rfl rfl rfl rfl rfl λ c r h=>⟨r,h,λ V=>kE⟩,J.wt.same rfl rfl,rst.lg,rst.pre,rst.dead,λ V=>⟨as,by refine (?_:Lv N (Wl Cl S'.log) as _);rw [K.log];exact SV.gain rfl rfl rfl rfl rfl rfl rfl rfl⟩⟩,(λ h=>by exact (jD h).elim),λ V=>⟨⟨hfa,hfz⟩,λ K' (hw:Wl Cl S'.log K') h=>hbk K' (K.log▸hw) h⟩⟩
    ·have hcs:∀K,Wl Cl S.log K->(∀x∈c,K (-x))->False:=λ K hw k=>hbk K hw λ x hx=>by
      have:=k (-x) ((TA.2.1 _).mpr (aJ.mpr ⟨x,hx,rfl⟩))
      exact dN x▸this
     have hcv:∀x∈c,1<=x.natAbs/\x.natAbs<=N:=λ x hx=>by
      refine aM (aJ.mp ((TA.2.1 x).mp hx)) λ y hy q=>?_
      have:=har y (hfa y hy);rw [<-q,bO];exact this
     have hc0:∀x∈c,x≠0:=λ x hx=>nz (hcv x hx)
     have L3:Lv N (Wl Cl (S.log++[c])) as S' :=⟨SV.cr.more (λ K h=>(Wl.snoc.mp h).1) λ w hw=>Wl.snoc.mpr ⟨hw,tF hc0 (hcs _ hw)⟩,SV.wt,SV.wi,SV.wb,SV.bs,SV.sl⟩
     exact ⟨⟨hS'k,hlock,rst.b1,by refine (?_:(S'.log++[c]).length<=_);refine ah av (ah K.log (ah aG ?_));exact KV hb2 hv hc,T.turn rfl rfl rfl rfl rfl λ c r h=>⟨r,h,λ V=>kE⟩,J.wt.same rfl rfl,by refine (?_:fY N Cl (S'.log++[c]));rw [K.log];exact I.lg.snoc ⟨TA.1,hcv⟩ hcs,by refine (?_:lg0<+:S'.log++[c]);rw [K.log];exact I.pre.trans (jM _ _),λ h=>(by have:S'.refuted=true:=h;replace this:=hrf▸this;exact (jD this).elim),λ V=>⟨as,by refine (?_:Lv N (Wl Cl (S'.log++[c])) as _);rw [K.log];exact L3.gain rfl rfl rfl rfl rfl rfl rfl rfl⟩⟩,(λ h=>by exact (jD h).elim),λ V=>⟨⟨hfa,hfz⟩,λ K' (hw:Wl Cl (S'.log++[c]) K') h=>hbk K' (by rw [K.log] at hw;exact (Wl.snoc.mp hw).1) h⟩⟩
   ·exact next l (har l (am hl)) (.inl ⟨hl,hs⟩)
   ·have hm:=Fw SV hq (λ v h1 h2=>hall v ((hS'k v).mpr ⟨h1,h2⟩)) UA
    exact ⟨rst,λ V=>by rw [K.log];exact hm,λ h=>by exact (ze h).elim⟩
   ·have Zj:=(hS'k v).mp hv
    have hl' :1<=l.natAbs/\l.natAbs<=N:=by clear hn hv;rcases hl with rfl | rfl<;>lia
    refine next l hl' (.inr ⟨UA,?_⟩)
    have:(l.natAbs:Int)=v:=by clear hn hv;rcases hl with rfl | rfl<;>lia
    unfold says
    refine ah this (ah hn ?_);rfl
end
section
theorem Wl.cons{Cl lg:List (List Int)}{K:Int->Prop}:Wl (Cl++[c]) lg K↔Wl Cl lg K/\clo K c:=
 ⟨λ h=>⟨⟨h.1,λ x hx=>h.2.1 x (ak _ hx),h.2.2⟩,h.2.1 c (ai _ (.head _))⟩,
  λ h=>⟨h.1.1,λ x hx=>(aw.mp hx).elim (h.1.2.1 x) λ q=>(al.mp q)▸h.2,h.1.2.2⟩⟩
theorem fY.more{Cl lg:List (List Int)}(h:fY N Cl lg)(c:List Int):fY N (Cl++[c]) lg:=λ k d hk=>⟨(h k d hk).1,λ K hw=>(h k d hk).2 K (Wl.cons.mp hw).1⟩
theorem Lv.more{W W' :(Int->Prop)->Prop}(L:Lv N W as S)(hW:∀K,W' K->W K)(h4:∀w,W (Lw w)->W' (Lw w)):Lv N W' as S:=⟨L.cr.more hW h4,L.wt,L.wi,L.wb,L.bs,L.sl⟩
theorem qv(H:HK N hs):∀(ls:List Int),(∀l∈ls,1<=l.natAbs/\l.natAbs<=N)->ls.foldl uL hs=hs
 | [],_=>rfl
 | l::ls,h=>by
  have hl:=h l (.head _)
  have:uL hs l=hs:=by
   unfold uL;exact ah (if_pos (pk.mpr ((H _).mpr (bk (bY.mpr hl.1) (bY.mpr hl.2))))) rfl
  exact af en (ah this (qv H ls λ x hx=>h x (.tail _ hx)))
theorem oS(h:S.begins=[])(k:Nat):bT S k=S:=jp (ah h rfl)
theorem nk(S:SS):(bT S 0).begins=[]:=by
 cases h:S.begins with
 | nil=>rewrite [oS h];exact h
 | cons b bs=>
  unfold bT
  exact ah h rfl
theorem Lv.back0{W:(Int->Prop)->Prop}(L:Lv N W as S)(as' :List Int):Lv N W as' (bT S 0):=by
 have SJ:=nk S
 have T:=L.cr.trl.back 0
 have C:=L.cr.snd.back L.cr.trl 0
 have hw:=(ix S 0).2.2.2.2.2.2.2
 refine ⟨⟨T,C,v8.zero SJ C⟩,L.wt.same hw.1 hw.2,?_,ah SJ (λ b hb=>(by cases hb)),ah SJ (λ b hb=>(by cases hb)),?_⟩
 ·cases h:S.begins with
  | nil=>rewrite [oS h];exact L.wi
  | cons b bs=>
   have hb:S.begins[0]? =some b:=ah h rfl
   refine sw (kg hb (L.cr.trl.be b (ah h (.head _)))) λ e1 e2 e3 e4 e5 e6 e7=>?_
   refine ah e1 (ah e3 (ah e6 ?_))
   intro i r hr
   exact ah ik (ah (MH ..) (L.wb b (ah h (.head _)) i r hr))
 ·cases h:S.begins with
  | nil=>rewrite [oS h];exact L.sl
  | cons b bs=>
   have hb:S.begins[0]? =some b:=ah h rfl
   have hle:=L.cr.trl.be b (ah h (.head _))
   refine sw (kg hb hle) λ e1 e2 e3 e4 e5 e6 e7=>(ah e1 (ah e3 (ah ce ?_)));exact KU hle
theorem q_.ask{Cl lg0:List (List Int)}(R:q_ N Cl lg0 bud S)(as:List Int)(har:∀l∈as,1<=l.natAbs/\l.natAbs<=N)(hl:S.limit=lim):Iv N Cl S.log as S.clashes bud lim (((bT S 0).uBlamed []).uHeats (as.foldl uL S.heats)):=by
 refine CE (ix S 0) λ f1 f2 f3 f4 f5 f6 f7 f8 f9=>?_
 have SJ:=nk S
 refine ah (qv R.hk as har) ?_
 have h1:=R.b1;have h2:=R.b2
 refine ⟨R.hk,f2.trans R.lock,f3.trans hl,rfl,aC f4.symm,((ac (aC f4) (aB _ _)):(bT S 0).clashes<=_),by refine ((ah f8 ?_):(bT S 0).rows.length+_<=bud+(bT S 0).clashes);exact di h1 (aC f4.symm),by refine ((ah f6 ?_):(bT S 0).log.length+_<=bud+(bT S 0).clashes);exact di h2 (aC f4.symm),(R.trl.back 0).turn rfl rfl rfl rfl rfl λ c r h=>⟨r,h,λ V=>kE⟩,R.wt.same f8 f9,by refine (?_:fY N Cl (bT S 0).log);rw [f6];exact R.lg,by refine (?_:S.log<+:(bT S 0).log);rw [f6];exact Es _,λ h=>by refine (?_:∀K,¬Wl Cl (bT S 0).log K);rw [f6];exact R.dead (f5.symm.trans h),λ h=>?_⟩
 refine aS (R.live (f5.symm.trans h)) λ YY L=>(du (by refine (?_:Lv N (Wl Cl (bT S 0).log) as _);rw [f6];exact (L.back0 as).gain rfl rfl rfl rfl rfl rfl rfl rfl) ⟨λ k b hb=>?_,?_⟩ ?_)
 ·have hb' :(bT S 0).begins[k]? =some b:=hb
  replace hb' :=SJ▸hb';simp at hb'
 ·exact ((ah SJ (bb _)):(bT S 0).begins.length<=_)
 ·exact ((ac (aC f4) (aB _ _)):(bT S 0).clashes<=S.clashes+_)
theorem H8{ls:List Int}(h:ls.Pairwise λ x y=>y≠-x)(hx:x∈ls)(hy:y∈ls)(hne:x≠y):y≠-x:=by
 refine aS (aK.mp hx) λ i hi=>?_
 (try clear hx);refine aS (aK.mp hy) λ j hj=>?_
 (try clear hx);obtain ⟨W8,hi2⟩:=ag.mp hi
 (try clear hx);obtain ⟨TQ,hj2⟩:=ag.mp hj
 (try clear hx);rcases pX i j with q | q | q
 ·have:=(da.mp h) i j W8 TQ q
  rwa [hi2,hj2] at this
 ·clear hi2 hj2;subst q;replace hj:=hi▸hj;clear hi;have QI:=sI hj;clear hj;subst QI;exact absurd rfl hne
 ·have:=(da.mp h) j i TQ W8 q
  replace this:=hj2▸hi2▸this
  exact KT this
theorem EI{ls c:List Int}(h:ls.Pairwise λ x y=>y≠-x)(O:t4 ls c):(c.map bB).Nodup:=by
 have hn:=O.1
 unfold gX at hn⊢
 refine io cY (hn.imp_of_mem λ{a b} ha hb hne e=>?_)
 have:=H8 h ((O.2.1 a).mp ha) ((O.2.1 b).mp hb) hne
 rcases natAbs_eq e with q | q
 ·exact hne q
 ·exact KS e this hne
theorem Ij{ls:List Int}(h:¬ls.Pairwise λ x y=>y≠-x)(w:Nat->Bool)(h0:∀l∈ls,l≠0):∃x∈ls,AR w x=true:=by
 refine dP λ hn=>h ?_
 have hf:∀x∈ls,AR w x=false:=λ x hx=>by
  cases e:AR w x with
  | false=>rfl
  | true=>exact absurd ⟨x,hx,e⟩ hn
 have:ls.Pairwise λ x y=>x∈ls/\y∈ls:=da.mpr λ i j hi hj V=>⟨iL hi,iL hj⟩
 refine this.imp λ{x y} hxy e=>?_
 have h1:=hf x hxy.1
 have h2:=hf y hxy.2
 replace h2:=h1▸sW (h0 x hxy.1)▸e▸h2;exact (ze h2).elim
theorem q_.add{Cl lg0:List (List Int)}(hN:N<=60)(hb:bud<=40000)(R:q_ N Cl lg0 bud S)(hz:ls.length<60)(har:∀l∈ls,1<=l.natAbs/\l.natAbs<=N):Hp S ls (λ S' =>q_ N (Cl++[ls]) lg0 (bud+1) S' /\S'.limit=S.limit):=by
 refine CE (ix S 0) λ f1 f2 f3 f4 f5 f6 f7 f8 f9=>?_
 have SJ:=nk S
 have h1:=R.b1;have h2:=R.b2
 have hnz:∀l∈ls,l≠0:=λ l hl=>by have:=har l hl;exact nz this
 have hready:fk S ls=((bT S 0).uHeats S.heats):=by unfold fk;exact ah (qv R.hk ls har) rfl
 have T1:kt N (fk S ls):=ah hready ((R.trl.back 0).turn rfl rfl rfl rfl rfl λ c r h=>⟨r,h,λ V=>kE⟩)
 have W1:l4 N (fk S ls) 0 []:=ah hready (R.wt.same f8 f9)
 have L1:S.refuted=false->Lv N (Wl Cl S.log) [] (fk S ls):=λ h=>aS (R.live h) λ YY L=>(ah hready ((L.back0 []).gain rfl rfl rfl rfl rfl rfl rfl rfl))
 have g1:(fk S ls).heats=S.heats:=ah hready rfl
 have g2:(fk S ls).lock=none:=ah hready (f2.trans R.lock)
 have g3:(fk S ls).limit=S.limit:=ah hready f3
 have Tw:=R.lg.more ls
 have g5:(fk S ls).refuted=S.refuted:=ah hready f5
 have g6:(fk S ls).log=S.log:=ah hready f6
 have g8:(fk S ls).rows=S.rows:=ah hready f8
 have g0:(fk S ls).begins=[]:=ah hready SJ
 refine ⟨R.trl.tr,R.lock,hz,λ l hl=>by have:=har l hl;exact G9 this hN,au h2 (au hb (by decide)),au h1 (au hb (by decide)),R.wt.wz (ac h1 (ac hb (aj _ _))),by have:=R.trl.len;exact au this (au hN (by decide)),λ hp=>?_,λ hp c O=>?_⟩
 ·exact ⟨⟨ah g1 R.hk,g2,ah g8 (ac h1 (aB _ _)),ah g6 (ac h2 (aB _ _)),T1,W1,ah g6 Tw,ah g6 R.pre,λ h K hw=>R.dead (g5.symm.trans h) K (Wl.cons.mp (g6▸hw)).1,λ h=>⟨[],ah g6 ((L1 (g5.symm.trans h)).more (λ K h=>(Wl.cons.mp h).1) λ w hw=>Wl.cons.mpr ⟨hw,sB (aM (Ij hp w hnz) λ x hx hs=>⟨x,hx,hnz x hx,hs⟩)⟩)⟩⟩,g3⟩
 ·generalize fk S ls=S1 at*
  clear hready SJ f1 f2 f3 f4 f5 f6 f7 f8 f9
  have hcr:∀l∈c,1<=l.natAbs/\l.natAbs<=N:=λ l hl=>har l ((O.2.1 l).mp hl)
  have hc0:∀l∈c,l≠0:=λ l hl=>hnz l ((O.2.1 l).mp hl)
  unfold Dn
  by_cases hcond:S1.refuted=true\/(c.any λ l=>says S1 l==some true)=true
  ·refine ah (if_pos hcond) ⟨⟨ah g1 R.hk,g2,ah g8 (ac h1 (aB _ _)),ah g6 (ac h2 (aB _ _)),T1,W1,ah g6 Tw,ah g6 R.pre,λ h K hw=>R.dead (g5.symm.trans h) K (Wl.cons.mp (g6▸hw)).1,λ h=>?_⟩,g3⟩
   have L:=L1 (g5.symm.trans h)
   rcases hcond with q | q
   ·replace q:=h▸q;exact (jD q).elim
   ·refine aM (dj.mp q) λ x hx hxs=>?_
    have hxs' :says S1 x=some true:=cG hxs
    have hm:=(T1.tr.mem_true (hc0 x hx)).mp hxs'
    refine aS (aK.mp hm) λ i hi=>?_
    exact ⟨[],ah g6 (L.more (λ K h=>(Wl.cons.mp h).1) λ w hw=>Wl.cons.mpr ⟨hw,sB ⟨x,(O.2.1 x).mp hx,L.cr.snd.c2 i x hi (ah g0 rfl) _ hw⟩⟩)⟩
  ·refine ah (if_neg hcond) ?_
   have hnr:S1.refuted=false:=by
    cases e:S1.refuted with
    | false=>rfl
    | true=>exact absurd (.inl e) hcond
   have hnt:∀x∈c,says S1 x≠some true:=λ x hx e=>hcond (.inr (dj.mpr ⟨x,hx,ah e rfl⟩))
   have L:=L1 (g5.symm.trans hnr)
   have SB:=L.cr.snd
   have hfalse:∀x∈c,x∉lP S1 c->∀K,Wl Cl S.log K->K (-x):=λ x hx hn K hw=>by
    rcases T1.tr.cases (hc0 x hx) with ⟨q,_⟩ | ⟨_,q⟩ | ⟨q,_,_⟩
    ·exact absurd q (hnt x hx)
    ·exact aS (aK.mp q) λ i hi=>SB.c2 i _ hi (ah g0 rfl) K hw
    ·exact absurd (bE.mpr ⟨hx,by rw [q];rfl⟩) hn
   have hleft:∀K,Wl (Cl++[ls]) S.log K->clo K (lP S1 c):=λ K hw y hy=>by
    obtain ⟨hw,hc⟩:=Wl.cons.mp hw
    have:=hc y λ x hx hne=>by
     by_cases h:x∈lP S1 c
     ·exact hy x h hne
     ·exact hfalse x ((O.2.1 x).mpr hx) h K hw
    refine ⟨dP λ q=>?_,this.2⟩
    exact hw.1 y this.2 (hfalse y ((O.2.1 y).mpr this.1) q K hw)
   have hlc:∀x∈lP S1 c,x∈c/\says S1 x=none:=λ x hx=>by
    refine aU (bE.mp hx) λ a b=>⟨a,?_⟩
    cases e:says S1 x with
    | none=>rfl
    | some b' =>replace b:=e▸b;exact (jD b).elim
   have hlnd:((lP S1 c).map bB).Nodup:=(EI hp O).sublist (uw _ nH)
   have hdead:∀S2:SS,S2.refuted=S1.refuted->S2.refuted=true->False:=λ S2 e h=>by replace h:=hnr▸e▸h;exact (jD h).elim
   generalize lP S1 c=lf at*
   match lf with
   | []=>
    have hno:∀K,¬Wl (Cl++[ls]) S.log K:=λ K hw=>n0 hw.1 (hleft K hw) λ x hx=>nomatch hx
    refine ⟨⟨((ah g1 R.hk):HK N S1.heats),g2,by refine (?_:S1.rows.length<=_);refine ah g8 ?_;exact ac h1 (aB _ _),by refine (?_:(S1.log++[[]]).length<=_);refine ah av (ah g6 (ah aG ?_));exact b8 h2 _,T1.turn rfl rfl rfl rfl rfl λ c r h=>⟨r,h,λ V=>kE⟩,W1.same rfl rfl,by refine (?_:fY N _ (S1.log++[[]]));exact ah g6 (Tw.snoc ⟨.nil,λ x hx=>nomatch hx⟩ λ K hw V=>hno K hw),by refine (?_:lg0<+:S1.log++[[]]);exact ah g6 (R.pre.trans (jM _ _)),λ V K (hw:Wl _ (S1.log++[[]]) K)=>hno K (by rw [g6] at hw;exact (Wl.snoc.mp hw).1),λ h=>(ze h).elim⟩,g3⟩
   | [l]=>
    clear hfalse hlnd;refine aU (hlc l (.head _)) λ SI hl2=>?_
    have T2:=T1.let_ (c:=none) hl2 (hcr l SI) (λ k hk=>(bw hk).elim) (λ V=>rfl) (λ V q=>absurd g0 q)
    refine ⟨⟨by refine (?_:HK N S1.heats);refine ah g1 ?_;exact R.hk,g2,by refine (?_:S1.rows.length<=_);refine ah g8 ?_;exact ac h1 (aB _ _),by refine (?_:S1.log.length<=_);refine ah g6 ?_;exact ac h2 (aB _ _),T2,W1.same rfl rfl,ah g6 Tw,ah g6 R.pre,λ h=>(hdead _ rfl h).elim,λ V=>⟨[],?_⟩⟩,g3⟩
    have C2:t3 (Wl (Cl++[ls]) S.log) (j8 S1 l none):=by
     refine ⟨λ K hw=>hw.1,λ r hr K hw=>SB.c1 r hr K (Wl.cons.mp hw).1,λ i x hi h0 K hw=>?_,λ w h1 h2=>Wl.cons.mpr ⟨SB.c4 w h1 λ i x hi h0=>h2 i x (yf hi) h0,sB ⟨l,(O.2.1 l).mp SI,?_⟩⟩⟩
     ·clear T2 SI hl2 hlc;rcases mj hi with q | ⟨rfl,rfl⟩
      ·exact SB.c2 i x q h0 K (Wl.cons.mp hw).1
      ·exact (hleft K hw x λ y hy hne=>absurd (al.mp hy) hne).2
     ·refine h2 S1.row.length l ?_ (by refine (?_:eG S1.begins _=0);refine ah g0 ?_;rfl)
      refine (?_:(S1.row++[l])[S1.row.length]? =some l)
      refine af (bI (az _)) (ah (gC ..) ?_);rfl
    refine (?_:Lv N (Wl _ S1.log) _ _)
    rw [g6]
    refine ⟨⟨T2,C2,v8.zero g0 C2⟩,W1.same rfl rfl,λ i r hr=>?_,λ b hb=>?_,λ b hb=>?_,?_⟩
    ·refine (?_:ow ((S1.row++[l]).take S1.seen) (S1.row++[l]) r)
     refine ah (df L.sl) ?_
     exact (L.wi i r hr).mono (λ V h=>h) λ V h=>ak _ h
    ·have hb' :b∈S1.begins:=hb
     replace hb' :=g0▸hb';cases hb'
    ·have hb' :b∈S1.begins:=hb
     replace hb' :=g0▸hb';cases hb'
    ·refine (?_:S1.seen<=(S1.row++[l]).length)
     have:=L.sl
     refine ah av ?_;exact ac this (aB _ _)
   | l::k::t=>
    have hgood:Good N (l::k::t):=⟨by simp,hlnd,λ x hx=>hcr x (hlc x hx).1⟩
    refine aS (iq S1 (l::k::t)) λ v e=>?_
    have T2:=T1.newrow (l::k::t)
    have W2:=W1.keep hgood
    have C2:t3 (Wl (Cl++[ls]) S.log) (gl S1 (l::k::t)):=by
     refine ah e ?_
     refine ⟨λ K hw=>hw.1,λ r hr K hw=>?_,λ i x hi h0 K hw=>SB.c2 i x hi h0 K (Wl.cons.mp hw).1,λ w h1 h2=>Wl.cons.mpr ⟨SB.c4 w (λ r hr=>h1 r (ak _ hr)) h2,sB ?_⟩⟩
     ·rcases aw.mp hr with hr | hr
      ·exact SB.c1 r hr K (Wl.cons.mp hw).1
      ·refine ah (al.mp hr) ?_;exact hleft K hw
     ·refine aM (h1 _ (ai _ (.head _))) λ x hx hs=>?_
      exact cC x ((O.2.1 x).mp (hlc x hx).1) hs
    refine (?_:q_ N _ _ _ (gl S1 (l::k::t))/\(gl S1 (l::k::t)).limit=_)
    generalize hS2:gl S1 (l::k::t)=S2 at*
    have i1:S2.begins=[]:=by refine ah e ?_;exact g0
    have i2:S2.rows=S1.rows++[l::k::t]:=ah e rfl
    have i3:S2.row=S1.row:=ah e rfl
    have i4:S2.seen=S1.seen:=ah e rfl
    have i5:S2.refuted=S1.refuted:=ah e rfl
    have i6:S2.log=S1.log:=ah e rfl
    refine ⟨⟨by refine ah e ?_;refine (?_:HK N S1.heats);refine ah g1 ?_;exact R.hk,by refine ah e ?_;exact g2,by refine ah i2 (ah av (ah g8 (ah aG ?_)));exact b8 h1 _,by refine ah e ?_;refine (?_:S1.log.length<=_);refine ah g6 ?_;exact ac h2 (aB _ _),T2,W2,by rw [i6];exact ah g6 Tw,by rw [i6];exact ah g6 R.pre,λ h=>(hdead _ i5 h).elim,λ V=>⟨[],⟨T2,by rw [i6,g6];exact C2,v8.zero i1 (by rw [i6,g6];exact C2)⟩,W2,λ i r hr=>?_,by refine ah i1 ?_;exact λ b hb=>(by cases hb),by refine ah i1 ?_;exact λ b hb=>(by cases hb),by refine ah i4 (ah i3 ?_);exact L.sl⟩⟩,by refine ah e ?_;exact g3⟩
    refine ah i3 (ah i4 ?_)
    replace hr:=i2▸hr
    rcases tR.mp hr with h | ⟨_,rfl⟩
    ·exact L.wi i r h
    ·have hun:∀x∈l::k::t,-x∉S1.row:=λ x hx q=>by
      have hh:=hlc x hx
      have:=T1.tr.false_ (hc0 x hh.1) q
      replace this:=hh.2▸this;exact (bw this).elim
     exact fm.mpr ⟨λ q=>absurd (bU _ _ q) (hun l (.head _)),λ q=>absurd (bU _ _ q) (hun k (.tail _ (.head _)))⟩
theorem q_.init(N:Nat):q_ N [] [] 0 (ib N):=by
 have T:kt N (ib N):=⟨⟨gm,λ v b=>⟨λ h=>((bw h).elim),λ QL=>by refine aM QL λ x hx V=>?_;clear QL;exact by cases hx⟩⟩,λ l hl=>(by cases hl),MI,λ b hb=>(by cases hb),λ i l hi=>(by simp [ib] at hi),λ i l hi=>by simp [ib] at hi⟩
 have Wt:l4 N (ib N) 0 []:=by
  have e:∀l,wp (ib N) 0 [] l=[]:=λ l=>af (iM ..) rfl
  refine ⟨λ i r h=>(by simp [ib] at h),λ l=>ah (e ..) gm,λ l i=>ah (e ..) ⟨λ h=>(by cases h),λ QT=>by refine aM QT λ r h V=>?_;clear QT;exact by simp [ib] at h⟩⟩
 have C:t3 (Wl [] []) (ib N):=⟨λ K h=>h.1,λ r hr=>(by cases hr),λ i l hi=>(by simp [ib] at hi),λ w V V=>⟨yG w,(λ c h=>nomatch h),(λ c h=>nomatch h)⟩⟩
 refine ⟨λ k=>(((ah bC (io aJ ?_)):k∈((cV N).map λ(i:Nat)=>((i:Int)+1,(0:Int))).map (·.1)↔_)),rfl,az _,az _,T,Wt,λ k c h=>(by simp [ib] at h),Es _,λ h=>((jD h).elim),λ V=>⟨[],⟨⟨T,C,v8.zero rfl C⟩,Wt,λ i r h=>(by simp [ib] at h),λ b hb=>(by cases hb),λ b hb=>(by cases hb),az _⟩⟩⟩
 constructor
 ·intro QW;refine aM QW λ i hi QY=>?_;clear QW;subst QY
  have:=cE.mp hi
  refine (?_:1<=(i:Int)+1/\(i:Int)+1<=N)
  exact KR this
 ·intro h
  exact cC ((k-1).toNat) (cE.mpr (KQ h)) (by refine (?_:(((k-1).toNat:Nat):Int)+1=k);exact KP h)
end
section
section
variable{C:Cx}{F:c_}{n:Nat}{m:Str->Option Value}{U U' :AH}{Z Y Y' :List (Addr×Obj)}{s s' :aE}
theorem EN{Q:Value->AH->Prop}(ha:U.rd a=some (.tup xs))(hb:U.rd b=some (.tup ys))(hy:ys≠[])(hz:xs.length+ys.length<=10000000)
  (h0:xs=[]->Q (.ref b) U) (h:∀D,U.get D=none->Q (.ref D) (U.put D (.tup (xs++ys)))):
  iK C F n (eM .Add) (.ref a) (.ref b) m U (qe Q):=λ a' b' e1 e2 O Z s W R K=>by
 refine jz e1 (jz e2 (ck (R.at ha) λ vs k hv hx=>(ck (R.at hb) λ ws k' hw T9 =>?_)))
 have hlen:=dw hx
 have hlen' :=dw T9
 refine c9 (R.viaNews O) λ mL FR N back=>(add_tuples (vs:=vs) (ws:=ws) FR N ⟨_,hv,rfl,_,rfl⟩ ⟨_,hw,rfl,_,rfl⟩ (λ e=>?_) (λ V e=>?_) (λ V V h' F' N' =>?_) (by refine ah cB ?_;exact O8 hz hlen hlen'))
 ·exact (K _ _ _ R (h0 (Bi hx (ah e rfl))))
 ·exact absurd (Bi T9 (ah e rfl)) hy
 ·exact aU (back {s with heap:=h' } _ _ (.tup (xs++ys)) ⟨R.core.gens,R.core.os,R.core.dr⟩ F' N' R.ledLt (R.top O) ⟨vs++ws,0,(N' _ (.head _)).1,af aD (ah hx (ah T9 rfl))⟩) λ R' hn=>(K _ _ _ R' (h _ hn))
end
end
section
section
variable{prog:Program}{w:nD}{A:dY}{E:Value->aE->Prop}{s:aE}
end
end
section
open Sem (wp)
section
variable{C:Cx}{F:c_}{n:Nat}{m:Str->Option Value}{U U' :AH}{Z Y Y' :List (Addr×Obj)}{s s' :aE}
theorem Go{Q:(Str->Option Value)->AH->Prop}(he:fA QV F.env=QV.map λ t=>(false,jY t F.env))(hT:U.rd T=some (.tup xs))(hl:xs.length=QV.length)
  (h:Ax C F n QV xs m U Q):Hj C F n (.Tuple QV k tp) (.ref T) m U Q:=λ v' e O Zz s W R K=>by
 refine jz e (ck (R.at hT) λ vs c hv hx=>?_)
 have hlen:=dw hx
 refine Jn (items:=vs.toArray) O.handled ⟨_,hv,rfl,_,rfl⟩ (by rewrite [he,ae,bo];exact (hlen.trans hl).symm) (ah he (tx QV _)) λ h' hk=>?_
 have R₂:cj C F Zz {s with heap:=h' } m U:=R.grow O ⟨R.core.gens,R.core.os,R.core.dr⟩ λ b o e=>hk b o (bu (bz e)) e
 have e2:(fA QV F.env).map (λ x=>x.2)=QV.map λ t=>jY t F.env:=ah he (af bC rfl)
 exact ah e2 (Ax.run O QV vs (hlen.trans hl) (hx▸h) R₂ K)
end
end
section
section
variable{C:Cx}{F:c_}{n:Nat}{m:Str->Option Value}{U U' :AH}{Z Y Y' :List (Addr×Obj)}{s s' :aE}{sc:Scope}
end
end
section
noncomputable abbrev TL:=List (List Bool×Addr)
noncomputable def HS(P:Option (Addr×Ad×SS))(U:AH)(E:List (Addr×aT)):Prop:=match P with
 | none=>Fl U E
 | some p=>St p.1 p.2.1 p.2.2 U E
section
variable{C:Cx}{F:c_}{n:Nat}{m:Str->Option Value}{U U' :AH}{X:Sx}{P:Option (Addr×Ad×SS)}{E E' :List (Addr×aT)}{a b:Addr}{o o' :aT}
theorem Fl.perm(T:Fl U E)(h:E.Perm E'):Fl U E' :=⟨λ p hp=>T.xt p (h.mem_iff.mpr hp),(h.map _).nodup_iff.mp T.nd⟩
theorem Fl.subl(T:Fl U E)(h:E'.Sublist E):Fl U E' :=⟨λ p hp=>T.xt p (h.subset hp),T.nd.sublist (h.map _)⟩
theorem HS.at_(H:HS P U E)(h:(a,o)∈E):U.get a=some o:=by
 cases P with
 | none=>exact Fl.xt H _ h
 | some p=>exact St.at_ H h
theorem HS.fresh(H:HS P U E)(h:U.get a=none):HS P (U.put a o) ((a,o)::E):=by
 cases P with
 | none=>exact Fl.fresh H h
 | some p=>exact St.fresh H h
theorem HS.turn(H:HS P U E)(h:gt a o o' E E'):HS P (U.put a o') E' :=by
 cases P with
 | none=>exact Fl.turn H h
 | some p=>exact St.turn H h
theorem HS.perm(H:HS P U E)(h:E.Perm E'):HS P U E' :=by
 cases P with
 | none=>exact Fl.perm H h
 | some p=>exact St.perm H h
theorem HS.subl(H:HS P U E)(h:E'.Sublist E):HS P U E' :=by
 cases P with
 | none=>exact Fl.subl H h
 | some p=>exact St.subl H h
theorem HS.nd(H:HS P U E):(E.map (·.1)).Nodup:=by
 cases P with
 | none=>exact Fl.nd H
 | some p=>exact St.nd H
theorem HS.same(H:HS P U E)(h:(a,o)∈E)(h' :(a,o')∈E):o=o' :=by
 have h1:=H.at_ h
 replace h1:=H.at_ h' ▸h1
 exact (aO h1).symm
theorem HS.rd(H:HS P U E)(h:(a,o)∈E)(hr:∀ob v,o≠ .ro ob v):U.rd a=some o:=d0 (H.at_ h) hr
theorem HS.tup(H:HS P U E)(h:(a,.tup xs)∈E):U.rd a=some (.tup xs):=H.rd h (by intro _ _ h;cases h)
theorem HS.lst(H:HS P U E)(h:(a,.list xs)∈E):U.rd a=some (.list xs):=H.rd h (by intro _ _ h;cases h)
theorem gt.mem'(h:gt a o o' E E'):(a,o')∈E' :=by
 induction h with
 | here=>exact .head _
 | there _ ih=>exact .tail _ ih
noncomputable def HN(o:aT)(k:Nat)(U:AH)(Q:Value->AH->Prop):Prop:=∃P E,HS P U E/\k<=1000000/\∀a U',HS P U' ((a,o)::E)->Q (.ref a) U'
theorem Hm{Q:Value->AH->Prop}(H:HS P U E)(hk:k<=1000000)(h:∀a U',HS P U' ((a,o)::E)->Q (.ref a) U'):HN o k U Q:=⟨_,_,H,hk,h⟩
theorem Fq{Q:Value->AH->Prop}(h:WL C F n es m U λ vs U1=>HN (.list vs) vs.length U1 Q):WE C F n (.List es pos) m U Q:=
 Gm λ O Z s pos W R K=>h O Z s pos _ R λ vs s' U' R' QI=>by refine jl QI λ V V H hz q=>?_;clear QI;exact K _ _ _ R' ⟨ac hz (aj _ _),λ a ha=>q a _ (H.fresh ha)⟩
theorem nT{Q:Value->AH->Prop}(h:WL C F n es m U λ vs U1=>HN (.tup vs) vs.length U1 Q):WE C F n (.Tuple es k pos) m U Q:=
 oa λ O Z s pos W R K=>h O Z s pos _ R λ vs s' U' R' QL=>by refine jl QL λ V V H hz q=>?_;clear QL;exact K _ _ _ R' ⟨ac hz (aj _ _),λ a ha=>q a _ (H.fresh ha)⟩
noncomputable def HL(a:Addr)(l u c:Option Int)(U:AH)(Q:Value->AH->Prop):Prop:=c≠some 0/\∃xs,U.rd a=some (.list xs)/\xs.length<=10000000/\∃P E,HS P U E/\∀D U',HS P U' ((D,.list (jS xs l u c))::E)->Q (.ref D) U'
theorem Kp{lo hi st:Option Expr}{Q:Value->AH->Prop}(hs:yX (.Slice lo hi st p))
  (h:WE C F n value m U λ o U1=>XR o λ a=>WP C F n lo m U1 λ l QB=>WP C F n hi m QB λ u QG=>WP C F n st m QG λ c U4=>HL a l u c U4 Q):WE C F n (.Subscript value (.Slice lo hi st p) pos) m U Q:=by
 have mon:∀{x:Option Expr} {U:AH} {P P' :Option Int->AH->Prop},WP C F n x m U P->(∀v U,P v U->P' v U)->WP C F n x m U P' :=λ{x U P P'} h k=>by
  cases x with
  | none=>exact k _ _ h
  | some x=>
   have h' :WE C F n x m U λ v U' =>∃i,v=vi i/\P (some i) U' :=h
   exact ((h'.mono λ v U' QT=>by refine aM QT λ i e q=>?_;clear QT;exact cC i e (k _ _ q)):WE C F n x m U λ v U' =>∃i,v=vi i/\P' (some i) U')
 exact L_ hs (h.mono λ o U1 QW=>by refine aM QW λ a e QC=>?_;clear QW;exact cC a e (mon QC λ l QB QP=>mon QP λ u QG Q_=>mon Q_ λ c U4 QY=>by refine aU QY λ h0 Q8=>?_;clear QY;obtain ⟨xs,hr,hz,P,E,H,q⟩:=Q8;exact ⟨h0,xs,hr,hz,λ D hD=>q D _ (H.fresh hD)⟩))
theorem Cj{Q:Value->AH->Prop}(H:HS P U E)(ha:(a,.list xs)∈E)(hz:xs.length<=1000000)(h:∀D U',HS P U' ((D,.list xs)::E)->Q (.ref D) U'):WB C F n (.type "list") [.ref a] m U (qe Q):=
 uD (.inl (H.lst ha)) (ac hz (aj _ _)) λ D hD=>h D _ (H.fresh hD)
noncomputable def ra(C:Cx)(F:c_)(n:Nat)(QO:Expr)(ifs:List Expr)(m:Str->Option Value)(U:AH)(K1:Value->AH->Prop)(K0:AH->Prop):Prop:=
 pT C F n ifs m U λ ok QB=>if ok then WE C F n QO m QB K1 else K0 QB
theorem sJ{K1:Value->AH->Prop}{K0:AH->Prop}(h:WE C F n QO m U K1):ra C F n QO [] m U K1 K0:=((ah (if_pos rfl) h):(if true=true then WE C F n QO m U K1 else K0 U))
theorem DP{K1:Value->AH->Prop}{K0:AH->Prop}(h:WT C F n c m U λ b U1=>if b then WE C F n QO m U1 K1 else K0 U1):ra C F n QO [c] m U K1 K0:=by
 refine WT.mono h λ b U1 q=>?_
 cases b with
 | true=>exact ((ah (if_pos rfl) q):(if true=true then WE C F n QO m U1 K1 else K0 U1))
 | false=>exact q
noncomputable def PQ(C:Cx)(F:c_)(n:Nat)(QO:Expr)(t:Str)(ifs:List Expr)(sc:Scope)(m:Str->Option Value)(x:Value)(U1:AH)(Q:Value->AH->Prop):Prop:=
 ∃(a:Addr) (ao:aT) (xs:List Value) (J:Nat->List Value->AH->Prop),x=.ref a/\eK ao=some xs/\xs.length<=1000000/\J 0 [] U1/\(∀i ys U,J i ys U->U.sees a ao)/\
   (∀L2 mL i v ys U',xs[i]? =some v->J i ys U' ->ra C (Fc F sc L2 mL) n QO ifs (fe (iJ sc m) t v) U' (λ r U=>J (i+1) (ys++[r]) U) (λ U=>J (i+1) ys U))/\
   ∀ys U' b,J xs.length ys U' ->U'.get b=none->Q (.ref b) (U'.put b (.list ys))
noncomputable def PR(C:Cx)(F:c_)(n:Nat)(QO:Expr)(t:Str)(ifs:List Expr)(sc:Scope)(m:Str->Option Value)(x:Value)(U1:AH)(Q:Value->AH->Prop):Prop:=
 ∃(d:Addr) (kvs:List (Int×Value)) (J:Obj->Nat->List Value->AH->Prop),x=.ref d/\U1.get d=some (.dict kvs)/\kvs.length<=1000000/\(∀o,J o 0 [] (U1.put d (.ro o (.dict kvs))))/\(∀o i ys U,J o i ys U->U.get d=some (.ro o (.dict kvs)))/\
   (∀o L2 mL i v ys U',(kvs.map λ p=>vi p.1)[i]? =some v->J o i ys U' ->ra C (Fc F sc L2 mL) n QO ifs (fe (iJ sc m) t v) U' (λ r U=>J o (i+1) (ys++[r]) U) (λ U=>J o (i+1) ys U))/\
   ∀o ys U' b,J o (kvs.map λ p=>vi p.1).length ys U' ->(U'.put d (.dict kvs)).get b=none->Q (.ref b) ((U'.put d (.dict kvs)).put b (.list ys))
noncomputable def XD(C:Cx)(F:c_)(n:Nat)(QO:Expr)(t:Str)(ifs:List Expr)(sc:Scope)(m:Str->Option Value)(x:Value)(U1:AH)(Q:Value->AH->Prop):Prop:=
 PQ C F n QO t ifs sc m x U1 Q\/PR C F n QO t ifs sc m x U1 Q
theorem mz(ht:(sc.names.lookup t==some .free)=false):∀z w,iJ sc m z=some w->fe (iJ sc m) t v z=some w:=λ z w h=>by
 unfold fe
 refine eH (λ e=>?_) λ V=>?_
 ·subst e;unfold iJ at h;rewrite [if_neg (by intro q;replace ht:=q▸ht;exact (ze ht).elim)] at h;exact (bw h).elim
 ·exact h
theorem pT.mono:∀(ifs:List Expr) {m:Str->Option Value} {U:AH} {P P' :Bool->AH->Prop},pT C F n ifs m U P->(∀b U,P b U->P' b U)->pT C F n ifs m U P'
 | [],_,_,_,_,h,k=>k _ _ h
 | c::r,_,_,_,_,h,k=>WT.mono h λ b U q=>by cases b with
  | true=>exact pT.mono r q k
  | false=>exact k _ _ q
theorem xY{J:Nat->List Value->AH->Prop}{xs ys:List Value}{v:Value}{i:Nat}{QB:AH}(ht:(sc.names.lookup t==some .free)=false)(TU:∀L2 mL,Stores (Fc F sc L2 mL) t)(hz:xs.length<=1000000)(hv:xs[i]? =some v)(hl:ys.length<=i)
  (Tp :ra C (Fc F sc L2 mL) n QO ifs (fe (iJ sc m) t v) QB (λ r U=>J (i+1) (ys++[r]) U) (λ U=>J (i+1) ys U)):
  Hj C (Fc F sc L2 mL) n (.Name t tp) v (iJ sc m) QB λ Q1 U1=>(∀z w,iJ sc m z=some w->Q1 z=some w)/\
   pT C (Fc F sc L2 mL) n ifs Q1 U1 λ ok QB=>if ok=true then CG C (Fc F sc L2 mL) n (EL C n QO (Fc F sc L2 mL)) [] ys Q1 QB (λ y' QG=>J (i+1) y' QG/\y'.length<=i+1) else J (i+1) ys QB/\ys.length<=i+1:=by
 refine fE (TU L2 mL) ⟨mz ht,?_⟩
 unfold ra at Tp
 refine pT.mono _ Tp λ ok QG q=>?_
 cases ok with
 | true=>
  have q' :WE C (Fc F sc L2 mL) n QO (fe (iJ sc m) t v) QG λ r U=>J (i+1) (ys++[r]) U:=q
  refine ⟨?_,?_⟩
  ·have:=(ag.mp hv).1;exact aP (aq (au hl this) (ac hz (aj _ _)))
  ·exact WE.mono q' λ r U4 hr=>⟨hr,ah av (ah aG (b8 hl _))⟩
 | false=>exact ⟨q,ac hl (aB _ _)⟩
theorem XD.lcx{Q:Value->AH->Prop}(ht:(sc.names.lookup t==some .free)=false)(TU:∀L2 mL,Stores (Fc F sc L2 mL) t)(h:XD C F n QO t ifs sc m x U1 Q):
  M2 C F n QO ⟨.Name t tp,it,ifs,0⟩ [] sc x m U1 λ ys U' =>∀b,U'.get b=none->Q (.ref b) (U'.put b (.list ys)):=by
 rcases h with h | h
 ·refine CC h λ a ao xs J e hi hz h0 hsee Tp Rk=>?_;clear h
  refine .inl ⟨a,ao,xs,e,hi,hsee _ _ _ h0,λ L2 mL=>(pq (λ i ys U=>J i ys U/\ys.length<=i) ⟨h0,bb _⟩ (λ i ys U h=>hsee _ _ _ h.1) (λ i v ys QB hv Q4=>?_) (λ ys U' Rb b hb=>by refine aU Rb λ hJ hl=>?_;clear Rb;exact Rk ys U' b hJ hb))⟩
  exact xY ht TU hz hv Q4.2 (Tp L2 mL i v ys QB hv Q4.1)
 ·obtain ⟨d,kvs,J,e,hd,hz,h0,hsee,Tp,Rk⟩:=h
  refine .inr ⟨d,kvs,e,hd,λ o L2 mL=>⟨λ i ys U=>J o i ys U/\ys.length<=i,⟨h0 o,bb _⟩,λ i ys U h=> .inl (hsee o _ _ _ h.1),λ i v ys QB hv Q4=>?_,λ ys U' w=>⟨hsee o _ _ _ w.1,λ b hb=>Rk o ys U' b w.1 hb⟩⟩⟩
  exact xY ht TU (by rw [ae];exact hz) hv Q4.2 (Tp o L2 mL i v ys QB hv Q4.1)
theorem ol{P:Bool->AH->Prop}(h:P true U):pT C F n [] m U P:=h
theorem w0{Q:Value->AH->Prop}(Sc:pR F sc)(hs:∀x,cP it F.env x=dG x)(ht:(sc.names.lookup t==some .free)=false)(TU:∀L2 mL,Stores (Fc F sc L2 mL) t)
  (h:WE C F n it m U λ x U1=>XD C F n QO t ifs sc m x U1 Q):WE C F n (.ListComp QO [⟨.Name t tp,it,ifs,0⟩] sc pos) m U Q:=
 vK Sc hs (h.mono λ x U1 h=>h.lcx ht TU)
theorem Gu{Q:fH->(Str->Option Value)->AH->Prop}
  (SW:iE (.ListComp QO [⟨.Name t tp,it,ifs,0⟩] sc pos') (some (.Name x p')) pos.line F.env=dG true) (Sx:Stores F x) (Sc:pR F sc) (hs:∀x,cP it F.env x=dG x) (ht:(sc.names.lookup t==some .free)=false) (TU:∀L2 mL,Stores (Fc F sc L2 mL) t)
  (h:WE C F n it m U λ y U1=>XD C F n QO t ifs sc m y U1 λ v U' =>Q .next (fe m x v) U'):W1 C F n (.Assign [.Name x p'] (.ListComp QO [⟨.Name t tp,it,ifs,0⟩] sc pos') pos) m U Q:=
 vP SW Sx Sc hs (h.mono λ y U1 h=>h.lcx ht TU)
end
end
section
noncomputable def SS.sKnown(S:SS)(x:List (Int×Bool)):SS:={S with known:=x}
noncomputable def SS.sHeights(S:SS)(x:List (Int×Nat)):SS:={S with heights:=x}
noncomputable def SS.sCauses(S:SS)(x:List (Int×Option Nat)):SS:={S with causes:=x}
noncomputable def SS.sRow(S:SS)(x:List Int):SS:={S with row:=x}
noncomputable def SS.sBegins(S:SS)(x:List Nat):SS:={S with begins:=x}
noncomputable def SS.sSeen(S:SS)(x:Nat):SS:={S with seen:=x}
noncomputable def SS.sLiked(S:SS)(x:List (Int×Bool)):SS:={S with liked:=x}
noncomputable def SS.sRows(S:SS)(x:List (List Int)):SS:={S with rows:=x}
noncomputable def SS.sWatch(S:SS)(x:List (Int×List Nat)):SS:={S with watch:=x}
noncomputable def SS.sHeats(S:SS)(x:List (Int×Int)):SS:={S with heats:=x}
noncomputable def SS.sGain(S:SS)(x:Int):SS:={S with gain:=x}
noncomputable def SS.sLog(S:SS)(x:List (List Int)):SS:={S with log:=x}
noncomputable def SS.sRefuted(S:SS)(x:Bool):SS:={S with refuted:=x}
noncomputable def SS.sBlamed(S:SS)(x:List Int):SS:={S with blamed:=x}
noncomputable def SS.sClashes(S:SS)(x:Nat):SS:={S with clashes:=x}
noncomputable def SS.sLimit(S:SS)(x:Int):SS:={S with limit:=x}
noncomputable def SS.sLock(S:SS)(x:Option Obj):SS:={S with lock:=x}
inductive t8(c:Bool)(A B:Prop):Prop where
 | mk (t:c=true->A) (f:c=false->B)
noncomputable def Gd(b:Bool)(P:Prop):Prop:=match b with
 | true=>P
 | false=>False
theorem Gd.of(h:Gd b P):b=true/\P:=by
 cases b with
 | true=>exact ⟨rfl,h⟩
 | false=>exact h.elim
noncomputable def Els(b:Bool)(P Q:Prop):Prop:=match b with
 | true=>P
 | false=>Q
inductive Zs where
 | no (E:List (Addr×aT))
 | s (A:Ad) (S:SS) (E:List (Addr×aT))
structure Gx where
 X:Sx
 n:Nat
 me:Addr
 nm:List (Str×dM)
 ex:Zs->Prop
 top:Prop
noncomputable def Gx.sub(G:Gx)(n:Nat)(nm:List (Str×dM)):Gx:=⟨G.X,n,G.me,nm,λ V=>False,False⟩
noncomputable def Zs.ok(G:Gx)(z:Zs)(U:AH):Prop:=match z with
 | .no E=>Fl U E
 | .s A S E=>St G.me A S U E
noncomputable def Zs.new(z:Zs)(a:Addr)(o:aT):Zs:=match z with
 | .no E=> .no ((a,o)::E)
 | .s A S E=> .s A S ((a,o)::E)
noncomputable def Zs.E:Zs->List (Addr×aT)
 | .no E=>E
 | .s _ _ E=>E
inductive JK(G:Gx)(z:Zs):Prop where
 | mk (U:AH) (ok:z.ok G U)
inductive MV where
 | v (x:Value)
 | me
noncomputable abbrev dZ:=List (Str×MV)
noncomputable def MV.val(me:Addr):MV->Value
 | .v x=>x
 | .me=> .ref me
noncomputable def MV.isMe:MV->Bool
 | .v _=>false
 | .me=>true
noncomputable def cH(me:Addr)(m:dZ):Str->Option Value:=λ x=>(m.lookup x).map (MV.val me)
noncomputable def put(m:dZ)(x:Str)(v:Value):dZ:=(x,.v v)::m
inductive Pz(G:Gx)(Q:Zs->Prop)(U:AH):Prop where
 | mk (z:Zs) (ok:z.ok G U) (q:Q z)
inductive Pm(G:Gx)(Q:dZ->Zs->Prop)(m' :Str->Option Value)(U:AH):Prop where
 | mk (m:dZ) (z:Zs) (e:cH G.me m=m') (ok:z.ok G U) (q:Q m z)
structure Mn(h h' :fT)(e t:Addr):Prop where
 keeps:∀b o,h.get? b=some o->h'.get? b=some o
 new:h.get? e=none
 tnew:h.get? t=none
 there:∃oe vs,h'.get? e=some oe/\oe.cls=.ref 53/\oe.data=.fields vs/\vs[0]? =some (.ref t)/\vs[1]? =some .none
 tup:∃vs,h'.TupAt t vs
structure GF(G:Gx)(F:c_):Prop where
 kind:∀x k,G.nm.lookup x=some k->k≠ .free->F.env.kindOf x=some k
 free:∀x,G.nm.lookup x=some .free->F.env.kindOf x=some .cell\/F.env.kindOf x=some .free
 blk:F.env.blockKind=.function
 inter:GC F.env=false
 rs:∀{Z s m U z h' tk e t},cj (CX G.X) F Z s m U->z.ok G U->G.ex z->Mn s.heap h' e t->F.exc (.ref e) {s with heap:=h',toks:=tk}
 tp:G.top->F.outer=[]/\F.base=F.h₀
noncomputable abbrev VQ:=Value->Zs->Prop
noncomputable abbrev SQ:=fH->dZ->Zs->Prop
noncomputable def Om:fH->fH
 | .ret v=> .ret (er v)
 | f=>f
noncomputable abbrev pv(G:Gx){α:Type}(Q:α->Zs->Prop):α->AH->Prop:=λ v U' =>Pz G (Q v) U'
noncomputable abbrev uk(G:Gx)(Q:SQ):fH->(Str->Option Value)->AH->Prop:=λ f m' U' =>Pm G (Q (Om f)) m' U'
section
variable(G:Gx)
structure lj(f:Value->Value->Sem Value)(a b:Value)(z:Zs)(Q:VQ):Prop where
 run:∀F m U,z.ok G U->iK (CX G.X) F G.n f a b m U (qe (pv G Q))
structure AA(o i:Value)(z:Zs)(Q:VQ):Prop where
 run:∀F m U,z.ok G U->WG (CX G.X) F G.n o i m U (pv G Q)
structure DL(o i v:Value)(z:Zs)(Q:Zs->Prop):Prop where
 run:∀F m U,z.ok G U->WI (CX G.X) F G.n o i v m U (Pz G Q)
structure lA(f:Value)(vs:List Value)(z:Zs)(Q:VQ):Prop where
 run:∀F m U,z.ok G U->WB (CX G.X) F G.n f vs m U (qe (pv G Q))
structure M0(f:Value)(vs:List Value)(ns:List Str)(ks:List Value)(z:Zs)(Q:VQ):Prop where
 run:∀F m U,z.ok G U->Hi (CX G.X) F G.n f vs ns ks m U (qe (pv G Q))
structure j4(f:Addr)(vs:List Value)(z:Zs)(Q:VQ):Prop where
 run:∀U,z.ok G U->WC (CX G.X) G.n f vs U (pv G Q)
structure Mg(attr:Str)(v:Value)(A:Ad)(S:SS)(E:List (Addr×aT))(Q:Zs->Prop):Prop where
 run:∀U,St G.me A S U E->NS attr v A S U (Pz G Q)
structure Os(a:Addr)(l u c:Option Int)(z:Zs)(Q:VQ):Prop where
 run:∀U,z.ok G U->HL a l u c U (pv G Q)
structure IsL(v:Value)(z:Zs):Prop where
 run:∀U,z.ok G U->∃a xs,v=.ref a/\U.rd a=some (.list xs)
structure Ov(v:Value)(z:Zs):Prop where
 run:∀U,z.ok G U->∃a xs,v=.ref a/\U.rd a=some (.dict xs)
structure gP(e:Expr)(m:dZ)(z:Zs)(Q:VQ):Prop where
 run:∀F U,GF G F->z.ok G U->WE (CX G.X) F G.n e (cH G.me m) U (pv G Q)
structure jL(b:Stmt)(m:dZ)(z:Zs)(Q:SQ):Prop where
 run:∀F U,GF G F->z.ok G U->W1 (CX G.X) F G.n b (cH G.me m) U (uk G Q)
noncomputable def jC(a:Value)(K:Int->Prop):Prop:=match a with
 | .int i _=>K i
 | _=>False
noncomputable def la(a:Value)(K:Int->Prop):Prop:=match a with
 | .int i 0=>K i
 | _=>False
noncomputable def si(a:Value)(K:Nat->Prop):Prop:=match a with
 | .int (.ofNat i) 0=>K i
 | _=>False
noncomputable def nS(a:Value)(K:Bool->Prop):Prop:=match a with
 | .bool i=>K i
 | _=>False
noncomputable def E8(a:Value)(K:Addr->Prop):Prop:=match a with
 | .ref i=>K i
 | _=>False
noncomputable def rz(a:Value)(K:Int->Prop)(L:Prop):Prop:=match a with
 | .int i _=>K i
 | _=>L
noncomputable def Kb(op:ON)(a b:Value)(z:Zs)(Q:VQ):Prop:=match op with
 | .Add=>rz a (λ i=>jC b λ j=>Q (vi (i+j)) z) (lj G (eM .Add) a b z Q)
 | .Sub=>jC a λ i=>jC b λ j=>Q (vi (i-j)) z
 | op=>lj G (eM op) a b z Q
noncomputable def O2(op:UnaryOp)(a:Value)(z:Zs)(Q:VQ):Prop:=match op with
 | .USub=>jC a λ i=>Q (vi (-i)) z
 | .Not=>nS a λ b=>Q (.bool (!b)) z
 | _=>False
noncomputable def Ii(op:AZ)(a b:Value)(z:Zs)(Q:VQ):Prop:=match op with
 | .Lt=>jC a λ i=>jC b λ j=>Q (.bool (decide (i<j))) z
 | .LtE=>jC a λ i=>jC b λ j=>Q (.bool (decide (i<=j))) z
 | .Gt=>rz a (λ i=>jC b λ j=>Q (.bool (decide (i>j))) z) (lj G (a_ .Gt) a b z Q)
 | .GtE=>jC a λ i=>jC b λ j=>Q (.bool (decide (i>=j))) z
 | .NotEq=>rz b (λ j=>jC a λ i=>Q (.bool (decide (i≠j))) z) (lj G (a_ .NotEq) a b z Q)
 | .Eq=>rz b (λ j=>jC a λ i=>Q (.bool (decide (i=j))) z) (lj G (a_ .Eq) a b z Q)
 | op=>lj G (a_ op) a b z Q
noncomputable def Ix(vs:List Value)(K:Value->Prop):Prop:=match vs with
 | [v]=>K v
 | _=>False
noncomputable def O3(f:Value)(vs:List Value)(z:Zs)(Q:VQ):Prop:=Els (f==.builtin "abs") (Ix vs λ v=>jC v λ i=>Q (vi i.natAbs) z) (lA G f vs z Q)
end
structure Wf where
 e:Expr->dZ->Zs->VQ->Prop
 t:Expr->dZ->Zs->(Bool->Zs->Prop)->Prop
 a:BoolOp->List Expr->dZ->Zs->(Bool->Zs->Prop)->Prop
 l:List Expr->dZ->Zs->(List Value->Zs->Prop)->Prop
 s:List Stmt->dZ->Zs->SQ->Prop
noncomputable def G5:List (Str×Int):=[("FIRST_SPAN",16),("MOST_HEAT",1000000000)]
noncomputable def g_(e:Expr):Bool:=e.ctorIdx !=22
noncomputable def qy(e:Expr):Bool:=e.ctorIdx !=7
noncomputable def s_(e:Expr):Bool:=match e with
 | .Call _ args _ _=> !args.isEmpty
 | _=>true
noncomputable def nN(e:Expr):Bool:=!(e.ctorIdx==8 || e.ctorIdx==9 || e.ctorIdx==10)
noncomputable def J5(e:Expr):Bool:=e.ctorIdx==23 || e.ctorIdx==19 || e.ctorIdx==2 || e.ctorIdx==21 || e.ctorIdx==16 || e.ctorIdx==3 || e.ctorIdx==20
noncomputable def HP(e:Expr):Bool:=e.ctorIdx==23 || e.ctorIdx==16 || e.ctorIdx==20 || e.ctorIdx==19
noncomputable def j7(e:Expr):Option (Str×Pos):=match e with
 | .Name x p=>some (x,p)
 | _=>none
noncomputable def NR(G:Gx)(x:Str)(m:dZ):Bool:=(m.lookup x).isNone&&G.nm.lookup x==some .globalImplicit
noncomputable def fS{α:Type}(o:Option α)(K:α->Prop)(L:Prop):Prop:=match o with
 | some x=>K x
 | none=>L
noncomputable def Br(G:Gx)(x:Str)(m:dZ)(z:Zs)(Q:VQ):Prop:=
 fS (m.lookup x) (λ v=>Q (v.val G.me) z) (Gd (G.nm.lookup x==some .globalImplicit) (fS (G5.lookup x) (λ i=>Q (vi i) z) (fS (C5.lookup x) (λ v=>Q v z) False)))
noncomputable def ye(c:Const)(z:Zs)(Q:VQ):Prop:=match c with
 | .int i=>Q (vi i) z
 | .str s=>Q (.str s 0) z
 | .bool b=>Q (.bool b) z
 | .none=>Q .none z
 | _=>False
noncomputable def isMe(o:Expr)(m:dZ):Bool:=match j7 o with
 | some (x,_)=>(match m.lookup x with
  | some w=>w.isMe
  | none=>false)
 | none=>false
noncomputable def kS(z:Zs)(K:Ad->SS->List (Addr×aT)->Prop):Prop:=match z with
 | .s A S E=>K A S E
 | .no _=>False
noncomputable def sU(G:Gx)(o:Expr)(attr:Str)(pos:Pos)(m:dZ)(z:Zs)(Q:VQ):Prop:=
 Gd (isMe o m) (kS z λ A S E=>Els (qU.contains attr) (fS (nsLook attr (fields A S)) (λ v=>Q v z) False) (gP G (.Attribute o attr pos) m z Q))
noncomputable def Py(Q:Option Int->Zs->Prop):VQ:=λ v z=>la v λ i=>Q (some i) z
noncomputable def EJ(w:Wf)(e:Option Expr)(m:dZ)(z:Zs)(Q:Option Int->Zs->Prop):Prop:=match e with
 | none=>Q none z
 | some e=>w.e e m z (Py Q)
noncomputable def wQ:List (Str×String):=[("append","list.append"),("extend","list.extend")]
noncomputable def xe:List (Str×String):=[("get","dict.get"),("setdefault","dict.setdefault"),("update","dict.update")]
noncomputable def kB(G:Gx)(f:String)(ov:Value)(Q:VQ):List Value->Zs->Prop:=λ vs z=>lA G (.builtin f) (ov::vs) z Q
noncomputable def Nx(w:Wf)(G:Gx)(f:String)(args:List Expr)(m:dZ)(Q:VQ):VQ:=λ ov z=>IsL G ov z/\w.l args m z (kB G f ov Q)
noncomputable def NJ(w:Wf)(G:Gx)(f:String)(args:List Expr)(m:dZ)(Q:VQ):VQ:=λ ov z=>Ov G ov z/\w.l args m z (kB G f ov Q)
noncomputable def Bs(w:Wf)(G:Gx)(o:Expr)(name:Str)(args:List Expr)(m:dZ)(z:Zs)(Q:VQ):Prop:=
 fS (wQ.lookup name) (λ f=>w.e o m z (Nx w G f args m Q)) (fS (xe.lookup name) (λ f=>w.e o m z (NJ w G f args m Q))
  (Gd (name==("pop":Str)) (Els args.isEmpty (w.e o m z (Nx w G "list.pop" args m Q)) (w.e o m z (NJ w G "dict.pop" args m Q)))))
noncomputable def kQ(Q5 pos:Pos)(o:Expr)(args:List Expr):Bool:=(Q5.endLine==pos.line)&&decide (args.length<20)&&args.all g_&&s_ o
noncomputable def kC(G:Gx)(f:Addr)(pre:List Value)(Q:VQ):List Value->Zs->Prop:=λ vs z=>j4 G f (pre++vs) z Q
noncomputable def PF(G:Gx)(f:Value)(Q:VQ):List Value->Zs->Prop:=λ vs z=>O3 G f vs z Q
noncomputable def PD(w:Wf)(G:Gx)(f:Value)(n1:Str)(v1:Expr)(m:dZ)(Q:VQ):List Value->Zs->Prop:=λ vs z=>w.e v1 m z λ k1 z=>M0 G f vs [n1] [k1] z Q
noncomputable def PC(w:Wf)(G:Gx)(f:Value)(n1 n2:Str)(v1 v2:Expr)(m:dZ)(Q:VQ):List Value->Zs->Prop:=λ vs z=>w.e v1 m z λ k1 z=>w.e v2 m z λ k2 z=>M0 G f vs [n1,n2] [k1,k2] z Q
noncomputable def Fh:Value->Bool
 | .builtin _=>true
 | _=>false
noncomputable def J8(w:Wf)(G:Gx)(x:Str)(args:List Expr)(RE:List Eb)(m:dZ)(z:Zs)(Q:VQ)(L:Prop):Prop:=match RE with
 | []=>fS (Cm.lookup x) (λ f=>w.l args m z (kC G f [] Q)) (fS (C5.lookup x) (λ f=>w.l args m z (PF G f Q)) L)
 | [⟨some n1,v1,_⟩]=>fS (C5.lookup x) (λ f=>Gd (Fh f&& !args.isEmpty) (w.l args m z (PD w G f n1 v1 m Q))) L
 | [⟨some n1,v1,_⟩,⟨some n2,v2,_⟩]=>fS (C5.lookup x) (λ f=>Gd (Fh f&& !args.isEmpty) (w.l args m z (PC w G f n1 n2 v1 v2 m Q))) L
 | _=>False
noncomputable def Bu(w:Wf)(G:Gx)(f:Expr)(args:List Expr)(RE:List Eb)(pos:Pos)(m:dZ)(z:Zs)(Q:VQ)(L:Prop):Prop:=match f with
 | .Attribute o name Q5=>Els (kQ Q5 pos o args&&RE.isEmpty)
   (Els (isMe o m) (kS z λ V V V=>fS (te.lookup name) (λ f=>w.l args m z (kC G f [.ref G.me] Q)) False) (Bs w G o name args m z Q)) L
 | .Name x p=>Gd (args.all g_&&NR G x m) (J8 w G x args RE m z Q L)
 | _=>L
noncomputable def iG(G:Gx)(z z' :Zs):Prop:=∀U,z.ok G U->z'.ok G U
noncomputable def qu(me:Addr)(m m' :dZ):Prop:=m'.map (λ p=>(m.lookup p.1).map (MV.val me))=m'.map (λ p=>some (p.2.val me))
noncomputable def n4(sc:Scope)(m:dZ):dZ:=m.filter λ p=>sc.names.lookup p.1==some .free
noncomputable def pe(G:Gx)(sc:Scope)(t:Str):Bool:=sc.kind==.function&&decide (sc.names.map (·.1)).Nodup&&sc.names.all (λ x=>x.1 !=("__class__":Str)&&(x.2 !=.free || G.nm.lookup x.1==some .cell || G.nm.lookup x.1==some .free))&&
 (t !=("__debug__":Str)&&t !=("__classdict__":Str)&&(sc.names.lookup t==some .local || sc.names.lookup t==some .cell))
inductive Pf{ι:Type}(G:Gx)(J:ι->Prop)(zf:ι->Zs)(z:Zs):Prop where
 | mk (j:ι) (h:J j) (hz:iG G z (zf j))
inductive Ot{ι:Type}(G:Gx)(J:ι->Prop)(mf:ι->dZ)(zf:ι->Zs)(m:dZ)(z:Zs):Prop where
 | mk (j:ι) (h:J j) (hm:qu G.me m (mf j)) (hz:iG G z (zf j))
noncomputable def NB(w:Wf)(QO:Expr)(m:dZ)(K1:VQ)(K0:Zs->Prop):Bool->Zs->Prop:=λ b z=>t8 b (w.e QO m z K1) (K0 z)
noncomputable def HO(w:Wf)(QO:Expr)(ifs:List Expr)(m:dZ)(z:Zs)(K1:VQ)(K0:Zs->Prop):Prop:=match ifs with
 | []=>w.e QO m z K1
 | [c]=>w.t c m z (NB w QO m K1 K0)
 | _=>False
inductive sK(w:Gx->Wf)(G:Gx)(QO:Expr)(t:Str)(ifs:List Expr)(sc:Scope)(m:dZ)(Q:VQ)(x:Value)(z:Zs):Prop where
 | mk (a:Addr) (ao:aT) (xs:List Value) (ι:Type) (zf:ι->Zs) (J:Nat->List Value->ι->Prop) (i0:ι) (hx:x=.ref a) (hi:eK ao=some xs) (hz:xs.length<=1000000) (h0:J 0 [] i0) (hs:iG G z (zf i0))
   (see:∀i ys j U,J i ys j->(zf j).ok G U->U.sees a ao)
   (turn:∀i ys j v,xs[i]? =some v->J i ys j->(JK G (zf j))->HO (w (G.sub G.n sc.names)) QO ifs (put (n4 sc m) t v) (zf j) (λ r=>Pf G (J (i+1) (ys++[r])) zf) (Pf G (J (i+1) ys) zf))
   (fin:∀ys j,J xs.length ys j->(JK G (zf j))->∀b,Q (.ref b) ((zf j).new b (.list ys)))
 | lock (A:Ad) (S:SS) (E:List (Addr×aT)) (d:Addr) (kvs:List (Int×Value)) (E' :Obj->List (Addr×aT)) (J:Nat->List Value->Prop) (ez:z=.s A S E) (hx:x=.ref d) (hz:kvs.length<=1000000)
   (t1:∀o,gt d (.dict kvs) (.ro o (.dict kvs)) E (E' o)) (t2:∀o,gt d (.ro o (.dict kvs)) (.dict kvs) (E' o) E) (h0:J 0 [])
   (turn:∀o i ys u,(kvs.map (·.1))[i]? =some u->J i ys->HO (w (G.sub G.n sc.names)) QO ifs (put (n4 sc m) t (vi u)) (.s A S (E' o)) (λ r z' =>iG G z' (.s A S (E' o))/\J (i+1) (ys++[r])) (λ z' =>iG G z' (.s A S (E' o))/\J (i+1) ys))
   (fin:∀ys,J kvs.length ys->∀b,Q (.ref b) (.s A S ((b,.list ys)::E)))
noncomputable def wC(w:Gx->Wf)(G:Gx)(QO:Expr)(gens:List bS)(sc:Scope)(m:dZ)(z:Zs)(Q:VQ)(L:Prop):Prop:=match gens with
 | [⟨t,it,ifs,_⟩]=>fS (j7 t) (λ t=>Gd (pe G sc t.1&&qy it) ((w G).e it m z (sK w G QO t.1 ifs sc m Q))) L
 | _=>L
noncomputable def NI(G:Gx)(z:Zs)(J:List (Int×Value)->Prop)(ys:List (Int×Value))(i:Int):VQ:=λ vv z' =>iG G z' z/\J (cW ys i vv)
noncomputable def Ir(w:Wf)(G:Gx)(v:Expr)(m:dZ)(z:Zs)(J:List (Int×Value)->Prop)(ys:List (Int×Value)):VQ:=λ kv z' =>la kv λ i=>w.e v m z' (NI G z J ys i)
inductive M5(w:Gx->Wf)(G:Gx)(k v:Expr)(t:Str)(sc:Scope)(m:dZ)(Q:VQ)(x:Value)(z:Zs):Prop where
 | mk (a:Addr) (ao:aT) (xs:List Value) (J:Nat->List (Int×Value)->Prop) (hx:x=.ref a) (hi:eK ao=some xs) (hz:xs.length<=1000000) (h0:J 0 []) (see:∀U,z.ok G U->U.sees a ao)
   (turn:∀i ys u,xs[i]? =some u->J i ys->(w (G.sub G.n sc.names)).e k (put (n4 sc m) t u) z (Ir (w (G.sub G.n sc.names)) G v (put (n4 sc m) t u) z (J (i+1)) ys))
   (fin:∀ys,J xs.length ys->∀b,Q (.ref b) (z.new b (.dict ys)))
 | heats (A:Ad) (S:SS) (E:List (Addr×aT)) (J:Nat->List (Int×Value)->Prop) (ez:z=.s A S E) (hx:x=.ref (A .heats)) (hl:S.lock=none) (h0:J 0 [])
   (turn:∀o i ys u,(S.heats.map (·.1))[i]? =some u->J i ys->(w (G.sub G.n sc.names)).e k (put (n4 sc m) t (vi u)) (.s A (S.sLock (some o)) E) (Ir (w (G.sub G.n sc.names)) G v (put (n4 sc m) t (vi u)) (.s A (S.sLock (some o)) E) (J (i+1)) ys))
   (fin:∀ys,J S.heats.length ys->∀b,Q (.ref b) (z.new b (.dict ys)))
noncomputable def Nl(w:Gx->Wf)(G:Gx)(k v:Expr)(gens:List bS)(sc:Scope)(m:dZ)(z:Zs)(Q:VQ)(L:Prop):Prop:=match gens with
 | [⟨t,it,ifs,_⟩]=>fS (j7 t) (λ t=>Gd (pe G sc t.1&&(qy it&&ifs.isEmpty)) ((w G).e it m z (M5 w G k v t.1 sc m Q))) L
 | _=>L
noncomputable def MQ(gens:List bS):Bool:=gens.all λ g=>g.is_async==0
noncomputable def Kk(G:Gx)(op:ON)(a:Value)(Q:VQ):VQ:=λ b z=>Kb G op a b z Q
noncomputable def Kl(w:Wf)(G:Gx)(op:ON)(r:Expr)(m:dZ)(Q:VQ):VQ:=λ a z=>w.e r m z (Kk G op a Q)
noncomputable def Px(op:UnaryOp)(Q:VQ):VQ:=λ a z=>O2 op a z Q
noncomputable def G1(G:Gx)(op:AZ)(a:Value)(Q:VQ):VQ:=λ b z=>Ii G op a b z Q
noncomputable def G2(w:Wf)(G:Gx)(op:AZ)(r:Expr)(m:dZ)(Q:VQ):VQ:=λ a z=>w.e r m z (G1 G op a Q)
noncomputable def J9(w:Wf)(G:Gx)(l:Expr)(RM:List AZ)(rs:List Expr)(m:dZ)(z:Zs)(Q:VQ):Prop:=match RM,rs with
 | [op],[r]=>Gd (!ii op r) (w.e l m z (G2 w G op r m Q))
 | _,_=>False
noncomputable def PE(w:Wf)(b o:Expr)(m:dZ)(Q:VQ):Bool->Zs->Prop:=λ c z=>t8 c (w.e b m z Q) (w.e o m z Q)
noncomputable def Ki(G:Gx)(o:Value)(Q:VQ):VQ:=λ i z=>AA G o i z Q
noncomputable def GZ(w:Wf)(G:Gx)(s:Expr)(m:dZ)(Q:VQ):VQ:=λ o z=>w.e s m z (Ki G o Q)
noncomputable def Nq(G:Gx)(a:Addr)(l u:Option Int)(Q:VQ):Option Int->Zs->Prop:=λ c z=>Os G a l u c z Q
noncomputable def Nr(w:Wf)(G:Gx)(st:Option Expr)(m:dZ)(a:Addr)(l:Option Int)(Q:VQ):Option Int->Zs->Prop:=λ u z=>EJ w st m z (Nq G a l u Q)
noncomputable def Nt(w:Wf)(G:Gx)(hi st:Option Expr)(m:dZ)(a:Addr)(Q:VQ):Option Int->Zs->Prop:=λ l z=>EJ w hi m z (Nr w G st m a l Q)
noncomputable def Nu(w:Wf)(G:Gx)(lo hi st:Option Expr)(m:dZ)(Q:VQ):VQ:=λ o z=>E8 o λ a=>EJ w lo m z (Nt w G hi st m a Q)
noncomputable def GP(w:Wf)(G:Gx)(v s:Expr)(m:dZ)(z:Zs)(Q:VQ):Prop:=match s with
 | .Slice lo hi st _=>w.e v m z (Nu w G lo hi st m Q)
 | s=>Gd (J5 s) (w.e v m z (GZ w G s m Q))
noncomputable def Ip(f:List Value->aT)(Q:VQ):List Value->Zs->Prop:=λ vs z=>vs.length<=1000000/\∀a,Q (.ref a) (z.new a (f vs))
structure Pe(G:Gx)(D:Addr)(i:Int)(v:Value)(z:Zs)(Q:VQ):Prop where
 run:∀U,z.ok G U->U.get D=some (.dict [])/\Pz G (Q (.ref D)) (U.put D (.dict [(i,v)]))
noncomputable def NG(G:Gx)(D:Addr)(i:Int)(Q:VQ):VQ:=λ v z=>Pe G D i v z Q
noncomputable def NH(w:Wf)(G:Gx)(v:Expr)(m:dZ)(D:Addr)(Q:VQ):VQ:=λ kv z=>la kv λ i=>w.e v m z (NG G D i Q)
noncomputable def HZ(w:Wf)(G:Gx)(ks:List (Option Expr))(vs:List Expr)(m:dZ)(z:Zs)(Q:VQ)(L:Prop):Prop:=match ks,vs with
 | [],[]=>∀a,Q (.ref a) (z.new a (.dict []))
 | [some k],[v]=>∀D,w.e k m (z.new D (.dict [])) (NH w G v m D Q)
 | _,_=>L
noncomputable def OZ(w:Gx->Wf)(G:Gx)(e:Expr)(m:dZ)(z:Zs)(Q:VQ):Prop:=match e with
 | .Name x _=>Br G x m z Q
 | .Constant c _ _=>ye c z Q
 | .BinOp l op r _=>(w G).e l m z (Kl (w G) G op r m Q)
 | .UnaryOp op x _=>(w G).e x m z (Px op Q)
 | .Compare l RM rs _=>J9 (w G) G l RM rs m z Q
 | .IfExp t b o _=>(w G).t t m z (PE (w G) b o m Q)
 | .Subscript v s _=>GP (w G) G v s m z Q
 | .Attribute o attr pos=>sU G o attr pos m z Q
 | .Call f args RE pos=>Bu (w G) G f args RE pos m z Q (gP G (.Call f args RE pos) m z Q)
 | .List es _=>(w G).l es m z (Ip .list Q)
 | .Tuple es _ _=>(w G).l es m z (Ip .tup Q)
 | .Dict ks vs pos=>HZ (w G) G ks vs m z Q (gP G (.Dict ks vs pos) m z Q)
 | .ListComp QO gens sc pos=>Gd (MQ gens) (wC w G QO gens sc m z Q (gP G (.ListComp QO gens sc pos) m z Q))
 | .DictComp k v gens sc pos=>Gd (MQ gens) (Nl w G k v gens sc m z Q (gP G (.DictComp k v gens sc pos) m z Q))
 | e=>gP G e m z Q
noncomputable def Nw(Q:Bool->Zs->Prop):Bool->Zs->Prop:=λ b z=>Q (!b) z
noncomputable def zK(Q:Bool->Zs->Prop):VQ:=λ v z=>nS v λ b=>Q b z
noncomputable def NK(w:Wf)(G:Gx)(Sf:AZ)(r2:Expr)(m:dZ)(b:Value)(Q:Bool->Zs->Prop):Bool->Zs->Prop:=λ t z=>t8 t (w.e r2 m z (G1 G Sf b (zK Q))) (Q false z)
noncomputable def NL(w:Wf)(G:Gx)(Ts Sf:AZ)(r2:Expr)(m:dZ)(a:Value)(Q:Bool->Zs->Prop):VQ:=λ b z=>Ii G Ts a b z (zK (NK w G Sf r2 m b Q))
noncomputable def NM(w:Wf)(G:Gx)(Ts Sf:AZ)(r1 r2:Expr)(m:dZ)(Q:Bool->Zs->Prop):VQ:=λ a z=>w.e r1 m z (NL w G Ts Sf r2 m a Q)
noncomputable def Bt(w:Wf)(G:Gx)(l:Expr)(RM:List AZ)(rs:List Expr)(m:dZ)(z:Zs)(Q:Bool->Zs->Prop):Prop:=match RM,rs with
 | [op],[r]=>Gd (!ii op r) (w.e l m z (G2 w G op r m (zK Q)))
 | [Ts,Sf],[r1,r2]=>Gd (!ii Sf r2) (w.e l m z (NM w G Ts Sf r1 r2 m Q))
 | _,_=>False
noncomputable def OW(w:Wf)(G:Gx)(e:Expr)(m:dZ)(z:Zs)(Q:Bool->Zs->Prop):Prop:=match e with
 | .BoolOp op es _=>w.a op es m z Q
 | .UnaryOp op x p=>Gd (op==.Not) (w.t x m z (Nw Q))
 | .Compare l RM rs _=>Bt w G l RM rs m z Q
 | e=>Gd (HP e) (w.e e m z (zK Q))
noncomputable def NO(w:Wf)(es:List Expr)(m:dZ)(Q:Bool->Zs->Prop):Bool->Zs->Prop:=λ b z=>t8 b (w.a .And es m z Q) (Q false z)
noncomputable def PA(w:Wf)(es:List Expr)(m:dZ)(Q:Bool->Zs->Prop):Bool->Zs->Prop:=λ b z=>t8 b (Q true z) (w.a .Or es m z Q)
noncomputable def Bv(w:Wf)(op:BoolOp)(es:List Expr)(m:dZ)(z:Zs)(Q:Bool->Zs->Prop):Prop:=match op,es with
 | .And,[]=>Q true z
 | .Or,[]=>Q false z
 | .And,e::es=>w.t e m z (NO w es m Q)
 | .Or,e::es=>w.t e m z (PA w es m Q)
noncomputable def PB(v:Value)(Q:List Value->Zs->Prop):List Value->Zs->Prop:=λ vs z=>Q (v::vs) z
noncomputable def kL(w:Wf)(es:List Expr)(m:dZ)(Q:List Value->Zs->Prop):VQ:=λ v z=>w.l es m z (PB v Q)
noncomputable def OY(w:Wf)(es:List Expr)(m:dZ)(z:Zs)(Q:List Value->Zs->Prop):Prop:=match es with
 | []=>Q [] z
 | e::es=>Gd (g_ e) (w.e e m z (kL w es m Q))
noncomputable def eZ(G:Gx)(x:Str):Bool:=x !=("__debug__":Str)&&x !=("__classdict__":Str)&&(G.nm.lookup x==some .local || (G.nm.lookup x==some .cell&&x !=("__class__":Str)))
noncomputable def fld(attr:Str)(v:Value)(S:SS)(K:SS->Prop)(L:Prop):Prop:=
 Els (attr==("seen":Str)) (si v λ k=>K (S.sSeen k))<| Els (attr==("is_refuted":Str)) (nS v λ b=>K (S.sRefuted b))<| Els (attr==("clashes":Str)) (si v λ k=>K (S.sClashes k))<|
  Els (attr==("gain":Str)) (la v λ k=>K (S.sGain k))<| Els (attr==("conflict_limit":Str)) (la v λ k=>K (S.sLimit k)) L
noncomputable def kN(m:dZ)(Q:SQ):Zs->Prop:=λ z=>Q .next m z
noncomputable def ND(G:Gx)(attr:Str)(m:dZ)(Q:SQ):VQ:=λ v z=>kS z λ A S E=>fld attr v S (λ S=>Q .next m (.s A S E)) (Mg G attr v A S E (kN m Q))
noncomputable def Ny(G:Gx)(ov v:Value)(Q:Zs->Prop):VQ:=λ iv z=>DL G ov iv v z Q
noncomputable def Kj(w:Wf)(G:Gx)(i:Expr)(v:Value)(m:dZ)(Q:Zs->Prop):VQ:=λ ov z=>w.e i m z (Ny G ov v Q)
noncomputable def Nz(w:Wf)(G:Gx)(o i:Expr)(m:dZ)(Q:SQ):VQ:=λ v z=>w.e o m z (Kj w G i v m (kN m Q))
noncomputable def MZ(w:Wf)(G:Gx):List Expr->List Value->dZ->Zs->SQ->Prop
 | [],_,m,z,Q=>Q .next m z
 | t::ts,vs,m,z,Q=>match vs with
  | []=>False
  | v::vs=>match t with
   | .Name x _=>Gd (eZ G x) (MZ w G ts vs (put m x v) z Q)
   | .Subscript o i _=>w.e o m z (Kj w G i v m λ z=>MZ w G ts vs m z Q)
   | _=>False
noncomputable def J3(G:Gx)(a b:Option (Str×Pos))(vs:List Expr):Option (Option (Str×Str)):=match a,b with
 | some (x,p),some (y,q)=>(match G.nm.lookup x==some .local&&(G.nm.lookup y==some .local&&(q.line==p.line&&(x !=y&&(!(vs.all (qo 8))&& !(vs.all (oZ 8)))))) with
  | true=>some (some (x,y))
  | false=>(match G.nm.lookup x==some .cell with
   | true=>some none
   | false=>none))
 | none,_=>some none
 | _,_=>none
noncomputable def uE(G:Gx)(ts vs:List Expr):Option (Option (Str×Str)):=match ts with
 | [a,b]=>J3 G (j7 a) (j7 b) vs
 | [_,_,_,_]=>some none
 | [_,_,_,_,_]=>some none
 | _=>none
noncomputable def Np(w:Wf)(G:Gx)(ts:List Expr)(m:dZ)(Q:SQ):List Value->Zs->Prop:=λ vs z=>Gd (vs.length==ts.length) (MZ w G ts vs m z Q)
noncomputable def Ce(x y:Str)(m:dZ)(Q:SQ):List Value->Zs->Prop:=λ vs z=>match vs with
 | [vx,vy]=>Q .next (put (put m y vy) x vx) z
 | _=>False
noncomputable def GO(w:Wf)(G:Gx)(ts es:List Expr)(m:dZ)(z:Zs)(Q:SQ):Prop:=
 Gd (es.length==ts.length&&(es.all g_&&ts.all g_)) (fS (uE G ts es) (λ o=>fS o (λ xy=>Gd (eZ G xy.1&&eZ G xy.2) (w.l es m z (Ce xy.1 xy.2 m Q))) (w.l es m z (Np w G ts m Q))) False)
noncomputable def G0(Q:SQ)(J:dZ->Zs->Prop):SQ:=λ f m z=>match f with
 | .next=>J m z
 | .ret v=>Q (.ret v) m z
 | _=>False
noncomputable def Iq(J:dZ->Zs->Prop):SQ:=λ f m z=>match f with
 | .next=>J m z
 | _=>False
inductive DO(w:Wf)(G:Gx)(t:Str)(body:List Stmt)(m:dZ)(Q:SQ)(x:Value)(z:Zs):Prop where
 | mk (a:Addr) (ao:aT) (xs:List Value) (ι:Type) (mf:ι->dZ) (zf:ι->Zs) (J:Nat->ι->Prop) (i0:ι) (hx:x=.ref a) (hi:eK ao=some xs) (h0:J 0 i0) (hm:qu G.me m (mf i0)) (hz:iG G z (zf i0))
   (see:∀i j U,J i j->(zf j).ok G U->U.sees a ao)
   (turn:∀i j v,xs[i]? =some v->J i j->(JK G (zf j))->w.s body (put (mf j) t v) (zf j) (G0 Q (Ot G (J (i+1)) mf zf)))
   (fin:∀j,J xs.length j->(JK G (zf j))->Q .next (mf j) (zf j))
 | heats (A:Ad) (S:SS) (E:List (Addr×aT)) (ι:Type) (mf:ι->dZ) (J:Nat->ι->Prop) (i0:ι) (ez:z=.s A S E) (hx:x=.ref (A .heats)) (hl:S.lock=none) (h0:J 0 i0) (hm:qu G.me m (mf i0))
   (turn:∀o i j u,(S.heats.map (·.1))[i]? =some u->J i j->w.s body (put (mf j) t (vi u)) (.s A (S.sLock (some o)) E) (Iq (Ot G (J (i+1)) mf λ V=> .s A (S.sLock (some o)) E)))
   (fin:∀j,J S.heats.length j->Q .next (mf j) (.s A S E))
noncomputable def Pw(w:Wf)(body:List Stmt)(m:dZ)(Q:SQ)(J:dZ->Zs->Prop):Bool->Zs->Prop:=λ c z=>t8 c (w.s body m z (G0 Q J)) (Q .next m z)
inductive tT(w:Wf)(G:Gx)(test:Expr)(body:List Stmt)(m:dZ)(z:Zs)(Q:SQ):Prop where
 | mk (ι:Type) (mf:ι->dZ) (zf:ι->Zs) (I:ι->Prop) (μ:ι->Nat) (i0:ι) (h0:I i0) (hm:qu G.me m (mf i0)) (hz:iG G z (zf i0))
   (turn:∀j,I j->(JK G (zf j))->w.t test (mf j) (zf j) (Pw w body (mf j) Q (Ot G (λ j' =>I j' /\μ j' <μ j) mf zf)))
noncomputable def Nv(m:dZ)(Q:SQ):VQ:=λ v z=>Q (.ret v) m z
noncomputable def NF(m:dZ)(Q:SQ):VQ:=λ V z=>Q .next m z
noncomputable def E_(x:Str)(m:dZ)(Q:SQ):VQ:=λ v z=>Q .next (put m x v) z
noncomputable def NA(w:Wf)(b o:List Stmt)(m:dZ)(Q:SQ):Bool->Zs->Prop:=λ c z=>t8 c (w.s b m z Q) (w.s o m z Q)
noncomputable def Bx(w:Gx->Wf)(G:Gx)(e:Expr)(m:dZ)(z:Zs)(K:VQ)(L:Prop):Prop:=match e with
 | .ListComp QO gens sc _=>Gd (MQ gens) (wC w G QO gens sc m z K L)
 | e=>Els (nN e) ((w G).e e m z K) L
noncomputable def GQ(w:Gx->Wf)(G:Gx)(t e:Expr)(m:dZ)(z:Zs)(Q:SQ)(L:Prop):Prop:=match t with
 | .Name x _=>Gd (eZ G x) (Bx w G e m z (E_ x m Q) L)
 | .Attribute o attr _=>Els (isMe o m&&qU.contains attr) ((w G).e e m z (ND G attr m Q)) L
 | .Subscript o i _=>Gd (nN e) ((w G).e e m z (Nz (w G) G o i m Q))
 | .Tuple ts _ _=>(match e with
  | .Tuple es _ _=>Els (ts.length==3) L (GO (w G) G ts es m z Q)
  | _=>L)
 | _=>False
noncomputable def J7(w:Gx->Wf)(G:Gx)(b:Stmt)(m:dZ)(z:Zs)(Q:SQ):Prop:=match b with
 | .Return e _=>fS e (λ e=>(w G).e e m z (Nv m Q)) (Q (.ret .none) m z)
 | .If t b o _=>(w G).t t m z (NA (w G) b o m Q)
 | .Expr e _=>Gd (nN e) ((w G).e e m z (NF m Q))
 | .Assign ts e pos=>(match ts with
  | [t]=>GQ w G t e m z Q (jL G (.Assign [t] e pos) m z Q)
  | _=>False)
 | .For t it body o pos=>fS (j7 t) (λ x=>Gd (o.isEmpty&&(eZ G x.1&&qy it)) ((w G).e it m z (DO (w G) G x.1 body m Q))) (jL G (.For t it body o pos) m z Q)
 | .While t body o _=>Gd o.isEmpty (tT (w G) G t body m z Q)
 | b=>jL G b m z Q
noncomputable def E7(w:Wf)(r:List Stmt)(Q:SQ):SQ:=λ f m z=>match f with
 | .next=>w.s r m z Q
 | f=>Q f m z
noncomputable def OX(w:Gx->Wf)(G:Gx)(bs:List Stmt)(m:dZ)(z:Zs)(Q:SQ):Prop:=match bs with
 | []=>Q .next m z
 | b::r=>J7 w G b m z (E7 (w G) r Q)
noncomputable def Wk:Nat->Gx->Wf
 | 0=>λ V=>⟨λ V V V V=>False,λ V V V V=>False,λ V V V V V=>False,λ V V V V=>False,λ V V V V=>False⟩
 | k+1=>λ G=>⟨OZ (Wk k) G,OW (Wk k G) G,Bv (Wk k G),OY (Wk k G),OX (Wk k) G⟩
end
section
section
variable{G:Gx}{F:c_}{m:dZ}{z z' :Zs}{U:AH}{C:Cx}{n:Nat}{Q:VQ}{m0:Str->Option Value}
theorem Els.of{P Q R:Prop}(h:Els b P Q)(h1:b=true->P->R)(h2:b=false->Q->R):R:=by
 cases b with
 | true=>exact h1 rfl h
 | false=>exact h2 rfl h
theorem fS.of{α:Type}{o:Option α}{K:α->Prop}{L R:Prop}(h:fS o K L)(h1:∀x,o=some x->K x->R)(h2:o=none->L->R):R:=by
 cases o with
 | none=>exact h2 rfl h
 | some x=>exact h1 x rfl h
theorem jC.of{K:Int->Prop}(h:jC a K):∃i t,a=.int i t/\K i:=by
 cases a<;>first | exact iI _ _ rfl h | exact h.elim
theorem rz.of{K:Int->Prop}{L R:Prop}(h:rz a K L)(h1:∀i t,a=.int i t->K i->R)(h2:L->R):R:=by
 cases a<;>first | exact h1 _ _ rfl h | exact h2 h
theorem la.of{K:Int->Prop}(h:la a K):∃i,a=vi i/\K i:=by
 cases a with
 | int i t=>cases t with
  | zero=>exact cC _ rfl h
  | succ=>exact h.elim
 | _=>exact h.elim
theorem si.of{K:Nat->Prop}(h:si a K):∃i,a=vn i/\K i:=by
 cases a with
 | int i t=>cases i with
  | ofNat i=>cases t with
   | zero=>exact cC _ rfl h
   | succ=>exact h.elim
  | negSucc=>exact h.elim
 | _=>exact h.elim
theorem nS.of{K:Bool->Prop}(h:nS a K):∃i,a=.bool i/\K i:=by
 cases a<;>first | exact cC _ rfl h | exact h.elim
theorem E8.of{K:Addr->Prop}(h:E8 a K):∃i,a=.ref i/\K i:=by
 cases a<;>first | exact cC _ rfl h | exact h.elim
theorem kS.of{K:Ad->SS->List (Addr×aT)->Prop}(h:kS z K):∃A S E,z=.s A S E/\K A S E:=by
 cases z with
 | no E=>exact h.elim
 | s A S E=>exact LJ A S E rfl h
theorem Ix.of{vs:List Value}{K:Value->Prop}(h:Ix vs K):∃v,vs=[v]/\K v:=by
 cases vs with
 | nil=>exact h.elim
 | cons v vs=>cases vs with
  | nil=>exact cC _ rfl h
  | cons=>exact h.elim
theorem jd(k:z.ok G U)(h:U.get a=none):(z.new a o).ok G (U.put a o):=by
 cases z with
 | no E=>exact Fl.fresh k h
 | s A S E=>exact St.fresh k h
theorem s8(k:z.ok G U)(h:U.get a=none):z.ok G (U.put a o):=by
 cases z with
 | no E=>exact (Fl.fresh (o:=o) k h).subl (bM _ _)
 | s A S E=>exact (St.fresh (o:=o) k h).subl (bM _ _)
noncomputable def Zs.hp(G:Gx):Zs->Option (Addr×Ad×SS)
 | .no _=>none
 | .s A S _=>some (G.me,A,S)
theorem GT:z.ok G U=HS (z.hp G) U z.E:=by cases z<;>rfl
theorem WE.bd{α:AH->Prop}{Q' :Value->AH->Prop}(h:WE C F n e m0 U (pv G Q))(k:∀v z U,z.ok G U->Q v z->Q' v U):WE C F n e m0 U Q' :=h.mono λ v U p=>by
 cases p with
 | mk z ok q=>exact k v z U ok q
theorem WT.bd{Q:Bool->Zs->Prop}{Q' :Bool->AH->Prop}(h:WT C F n e m0 U (pv G Q))(k:∀v z U,z.ok G U->Q v z->Q' v U):WT C F n e m0 U Q' :=h.mono λ v U p=>by
 cases p with
 | mk z ok q=>exact k v z U ok q
theorem WL.bd{Q:List Value->Zs->Prop}{Q' :List Value->AH->Prop}(h:WL C F n e m0 U (pv G Q))(k:∀v z U,z.ok G U->Q v z->Q' v U):WL C F n e m0 U Q' :=λ O Z s pos W R K=>
 h O Z s pos _ R λ v s U R p=>K _ _ _ R (p.casesOn λ z ok q=>k _ _ _ ok q)
theorem WS.bd{Q:SQ}{Q' :fH->(Str->Option Value)->AH->Prop}(h:WS C F n e m0 U (uk G Q))(k:∀f m z U,z.ok G U->Q (Om f) m z->Q' f (cH G.me m) U):WS C F n e m0 U Q' :=h.mono λ f m U p=>by
 cases p with
 | mk m z e ok q=>cases e;exact k _ _ _ _ ok q
theorem V2.bd{f:Value->Value->Sem Value}{Q' :Value->AH->Prop}(h:iK C F n f a b m0 U (qe (pv G Q)))(k:∀v z U,z.ok G U->Q v z->Q' v U):iK C F n f a b m0 U (qe Q'):=λ a' b' ea eb O Z s W R K=>
 h a' b' ea eb O Z s _ R λ v s U R p=>K _ _ _ R (p.casesOn λ z ok q=>k _ _ _ ok q)
theorem WI.bd{Q:Zs->Prop}{Q' :AH->Prop}(h:WI C F n o i v m0 U (Pz G Q))(k:∀z U,z.ok G U->Q z->Q' U):WI C F n o i v m0 U Q' :=λ o' i' v' e1 e2 e3 O Z s W R K=>
 h o' i' v' e1 e2 e3 O Z s _ R λ v s U R p=>K _ _ _ R (p.casesOn λ z ok q=>k _ _ ok q)
theorem WP.mono{Q Q' :Option Int->AH->Prop}(h:WP C F n e m0 U Q)(k:∀v U,Q v U->Q' v U):WP C F n e m0 U Q' :=by
 cases e with
 | none=>exact k _ _ h
 | some e=>
  have h' :WE C F n e m0 U λ v U' =>∃i,v=vi i/\Q (some i) U' :=h
  exact (h'.mono λ v U' p=>by
   refine aM p λ i e q=>?_;clear p
   exact cC i e (k _ _ q):WE C F n e m0 U λ v U' =>∃i,v=vi i/\Q' (some i) U')
theorem WP.bd{Q:Option Int->Zs->Prop}{Q' :Option Int->AH->Prop}(h:WP C F n e m0 U (pv G Q))(k:∀v z U,z.ok G U->Q v z->Q' v U):WP C F n e m0 U Q' :=h.mono λ v U p=>by
 cases p with
 | mk z ok q=>exact k v z U ok q
theorem mq(h:m.lookup x=some w):cH me m x=some (w.val me):=by unfold cH;exact ah h rfl
theorem dA(me:Addr)(m:dZ)(x:Str)(v:Value):fe (cH me m) x v=cH me (put m x v):=by
 funext y
 unfold fe cH put
 refine ah bq ?_
 by_cases h:y=x
 ·subst h;exact af (if_pos rfl) (ah (beq_self_eq_true ..) rfl)
 ·exact af (if_neg h) (ah (beq_false_of_ne h) rfl)
theorem qj(h:er a=.int i t):er a=vi i:=by
 cases a<;>first | (cases h;rfl) | exact (cI lu h rfl).elim
theorem V2.int{f:Value->Value->Sem Value}{Q:Value->AH->Prop}(h:iK C F n f (vi i) (vi j) m0 U Q):iK C F n f (.int i t) (.int j u) m0 U Q:=
 λ a b ha hb=>h a b (qj ha) (qj hb)
theorem V1.int{f:Value->Sem Value}{Q:Value->AH->Prop}(h:WV C F n f (vi i) m0 U Q):WV C F n f (.int i t) m0 U Q:=
 λ a ha=>h a (qj ha)
theorem zP{f:Value->Value->Sem Value}{P:Int->Int->Prop}{Q:Value->AH->Prop}(hf:∀i j,P i j->iK C F n f (vi i) (vi j) m0 U Q)(h:jC a λ i=>jC b λ j=>P i j):iK C F n f a b m0 U Q:=by
 refine ck h.of λ i t QI h1=>?_;subst QI
 (try clear h);refine ck h1.of λ j u QL h2=>?_;subst QL
 exact V2.int (hf i j h2)
theorem EP{a b:Value}(h:Kb G op a b z Q)(k:z.ok G U):iK (CX G.X) F G.n (eM op) a b m0 U (qe (pv G Q)):=by
 cases op with
 | Add=>exact rz.of h (λ i t e h=>by subst e;exact zP (a:=.int i t) (P:=λ i j=>Q (vi (i+j)) z) (λ i j h=>Ig ⟨z,k,h⟩) h) λ h=>h.run F m0 U k
 | Sub=>exact zP (λ i j h=>H_ ⟨z,k,h⟩) h
 | _=>exact lj.run h F m0 U k
theorem Ih(h:O2 op a z Q)(k:z.ok G U):WV (CX G.X) F G.n (JN op) a m0 U (qe (pv G Q)):=by
 cases op with
 | USub=>
  refine ck (jC.of h) λ i t QT h1=>?_;subst QT
  exact V1.int (Ib ⟨z,k,h1⟩)
 | Not=>
  refine aM (nS.of h) λ b QW h1=>?_;subst QW
  exact Ia ⟨z,k,h1⟩
 | _=>exact h.elim
theorem qg{a b:Value}(h:Ii G op a b z Q)(k:z.ok G U):iK (CX G.X) F G.n (a_ op) a b m0 U (qe (pv G Q)):=by
 cases op with
 | Lt=>exact zP (λ i j h=>IP ⟨z,k,h⟩) h
 | LtE=>exact zP (λ i j h=>IQ ⟨z,k,h⟩) h
 | GtE=>exact zP (λ i j h=>IT ⟨z,k,h⟩) h
 | Gt=>exact rz.of h (λ i t e h=>by subst e;exact zP (a:=.int i t) (P:=λ i j=>Q (.bool (decide (i>j))) z) (λ i j h=>IS ⟨z,k,h⟩) h) λ h=>h.run F m0 U k
 | NotEq=>exact rz.of h (λ j u e h=>by
   (try clear h);subst e
   refine ck (jC.of h) λ i t QY h1=>?_;subst QY
   exact V2.int (IN ⟨z,k,h1⟩)) λ h=>h.run F m0 U k
 | Eq=>exact rz.of h (λ j u e h=>by
   (try clear h);subst e
   refine ck (jC.of h) λ i t Rb h1=>?_;subst Rb
   exact V2.int (IU ⟨z,k,h1⟩)) λ h=>h.run F m0 U k
 | _=>exact lj.run h F m0 U k
theorem qf{Q:Bool->Zs->Prop}(h:zK Q v z)(k:z.ok G U):WV (CX G.X) F G.n kW v m0 U (pv G Q):=by
 refine aM (nS.of h) λ b Q8 h1=>?_;subst Q8
 exact Bh ⟨z,k,h1⟩
theorem BR{vs:List Value}(h:O3 G f vs z Q)(k:z.ok G U):WB (CX G.X) F G.n f vs m0 U (qe (pv G Q)):=
 Els.of h (λ e h=>by
  refine ah (cG e) (aM (Ix.of h) λ v Rc h1=>?_);subst Rc
  (try clear h);refine ck (jC.of h1) λ i t Rp h2=>?_;subst Rp
  exact λ QE e=>by
   refine aM (qV e) λ a' Q7 e1=>?_;subst Q7
   exact xr ⟨z,k,h2⟩ [a'] (af bc (ah (qj e1) rfl))) λ V h=>h.run F m0 U k
theorem Iu{a b:Prop}(h:t8 c A B)(ha:A->a)(hb:B->b):if c=true then a else b:=by
 obtain ⟨t,f⟩:=h
 cases c with
 | true=>exact ha (t rfl)
 | false=>exact hb (f rfl)
end
structure nC(w:Gx->Wf):Prop where
 e:∀{G e m z Q F U},(w G).e e m z Q->GF G F->z.ok G U->WE (CX G.X) F G.n e (cH G.me m) U (pv G Q)
 t:∀{G e m z Q F U},(w G).t e m z Q->GF G F->z.ok G U->WT (CX G.X) F G.n e (cH G.me m) U (pv G Q)
 a:∀{G op es m z Q F U},(w G).a op es m z Q->GF G F->z.ok G U->WA (CX G.X) F G.n op es (cH G.me m) U (pv G Q)
 l:∀{G es m z Q F U},(w G).l es m z Q->GF G F->z.ok G U->WL (CX G.X) F G.n es (cH G.me m) U (pv G Q)
 s:∀{G bs m z Q F U},(w G).s bs m z Q->GF G F->z.ok G U->WS (CX G.X) F G.n bs (cH G.me m) U (uk G Q)
theorem dW{α:Type}{l:List (Str×α)}{v:α}(h:l.lookup x=some v):(x,v)∈l:=by
 induction l with
 | nil=>exact (bw h).elim
 | cons p r ih=>
  rewrite [bq] at h
  cases e:x==p.1 with
  | true=>replace h:=e▸h;(try clear ih);have Rf:=sI h;clear h;subst Rf;(try clear ih);have e:=cG e;subst e;exact .head _
  | false=>replace h:=e▸h;exact .tail _ (ih h)
noncomputable def tw(q:Str×Int)(o:Option (Option Value)):Bool:=match o with
 | some (some (.int i _))=>i==q.2&& !(q.1==("__debug__":Str))
 | _=>false
theorem tw.of(h:tw q o=true):∃t,o=some (some (.int q.2 t))/\(q.1==("__debug__":Str))=false:=by
 cases o with
 | none=>exact (jD h).elim
 | some o=>cases o with
  | none=>exact (jD h).elim
  | some v=>cases v with
   | int i t=>
    exact aU (bg.mp h) λ h1 h2=>(cC _ (ah (cG h1) rfl) (by replace h2:=(b9 ..)▸h2;exact h2))
   | _=>exact (jD h).elim
theorem Ft(p:fB):G5.all (λ q=>tw q (oq (KK p) cX q.1))=true:=by kernel_rfl
noncomputable def LU(q:Str×Value):Bool:=q.1 !=("__name__":Str)&& !(q.1==("__debug__":Str))&&match q.2 with
 | .builtin _=>true
 | .type _=>true
 | _=>false
theorem I1:C5.all LU=true:=by decide
theorem yN{x:Str}{v:Value}(h:C5.lookup x=some v):x≠ "__name__"/\(x==("__debug__":Str))=false/\((∃b,v=.builtin b)\/∃b,v=.type b):=by
 have:=bV.mp I1 _ (dW h)
 refine aU (bg.mp this) λ YM h3=>(aU (bg.mp YM) λ h1 h2=>(du (bne_iff_ne.mp h1) ((b9 _).mp h2) ?_))
 cases v with
 | builtin b=>exact .inl ⟨_,rfl⟩
 | type b=>exact .inr ⟨_,rfl⟩
 | _=>exact (jD h3).elim
section
variable{w:Gx->Wf}{G:Gx}{F:c_}{m:dZ}{z:Zs}{U:AH}{Q:VQ}
theorem zk{x:Str}{pos:Pos}(h:Br G x m z Q)(g:GF G F)(k:z.ok G U):WE (CX G.X) F G.n (.Name x pos) (cH G.me m) U (pv G Q):=
 fS.of h (λ v e h=>d6 (mq e) ⟨z,k,h⟩) λ V h=>by
  refine aU h.of λ e h=>?_
  have hk:=g.kind _ _ (cG e) (by decide)
  refine fS.of h (λ i e2 h=>?_) λ V h=>fS.of h (λ v e2 h=>?_) λ V h=>h.elim
  ·exact aM (tw.of (bV.mp (Ft G.X.w.params) _ (dW e2))) λ t e3 e4=>(Gn hk e3 e4 ⟨z,k,h⟩)
  ·refine cu (yN e2) λ h1 h2 h3=>(xD hk (GU _ (dW e2)) (Hg (dW e2)) h1 h2 ⟨z,k,?_⟩)
   (try clear e2);rcases h3 with ⟨b,rfl⟩ | ⟨b,rfl⟩<;>exact h
theorem wB(h:ye c z Q)(k:z.ok G U):WE (CX G.X) F G.n (.Constant c j pos) (cH G.me m) U (pv G Q):=by
 cases c with
 | int i=>exact tV ⟨z,k,h⟩
 | str i=>exact xC ⟨z,k,h⟩
 | bool i=>exact tW ⟨z,k,h⟩
 | none=>exact yU ⟨z,k,h⟩
 | _=>exact h.elim
theorem iH(h:j7 o=some x):o=.Name x.1 x.2:=by
 cases o<;>first | (have Rd:=sI h;clear h;subst Rd;rfl) | exact (bw h).elim
set_option tactic.hygienic true in
theorem to(h:isMe o m=true):∃x p,o=.Name x p/\cH G.me m x=some (.ref G.me):=by
 unfold isMe at h
 split at h
 ·rename_i x p e
  split at h
  ·rename_i w e2
   refine iI x p (iH e) (af (mq e2) ?_)
   (try clear e2);cases w with
   | v x=>exact (jD h).elim
   | me=>rfl
  ·exact (jD h).elim
 ·exact (jD h).elim
theorem wL(h:nsLook x l=some v):(x,v)∈l:=by
 induction l with
 | nil=>exact (bw h).elim
 | cons p r ih=>
  unfold nsLook at h
  split at h
  ·(try clear ih);have Rn:=sI h;clear h;subst Rn;rename_i e;exact dI e (.head _)
  ·exact .tail _ (ih h)
theorem ry(h:nsLook attr (fields A S)=some v):oY v=true:=by
 have:(fields A S).all (λ p=>oY p.2)=true:=rfl
 exact bV.mp this _ (wL h)
theorem rW{o:Expr}(h:sU G o attr pos m z Q)(g:GF G F)(k:z.ok G U):WE (CX G.X) F G.n (.Attribute o attr pos) (cH G.me m) U (pv G Q):=by
 refine aU (Gd.of h) λ e h=>(ck (to (G:=G) e) λ x p Rm hx=>?_);subst Rm
 refine pz h.of λ A S E RA h1=>?_;subst RA
 exact Els.of h1 (λ e3 h=>fS.of h (λ v e2 h=>(Gk (show St G.me A S U E from k) hx e2 (Og _ (mP.mp e3)) (ry e2) ⟨_,k,h⟩)) λ V h=>h.elim) λ V h=>h.run F U g k
theorem jR(h:g_ e=true)(env:Env):cO (e::es) env=(false,fF e env)::cO es env:=by
 cases e<;>first | rfl | exact (jD h).elim
theorem uI(h:es.all g_=true):(eI pos (cO es env)).all (!·.1)=true:=by
 induction es with
 | nil=>rfl
 | cons e es ih=>
  have h' :=bg.mp (uv▸h)
  rewrite [jR h'.1]
  exact (ih h'.2:)
theorem d5(h:es.all g_=true):noStar es:=λ env pos=>by
 have:=uI (env:=env) (pos:=pos) h
 rewrite [bV] at this
 refine io pI ?_
 intro x hx
 have:=this x hx
 simpa using this
theorem GY(h:(e::r).all g_=true)(env:Env)(pos:Pos):eI pos (cO (e::r) env)=(false,fF e env)::eI pos (cO r env):=by
 rewrite [jR (bg.mp (uv▸h)).1];rfl
theorem FU(h:s_ o=true)(name:Str)(env:Env)(t:Sem Value):AE o name env t=t:=by
 cases o with
 | Call f args RE p=>
  cases args with
  | nil=>exact (jD h).elim
  | cons a r=>(try clear h);cases f<;>rfl
 | _=>rfl
theorem mB(h:kQ Q5 pos o args=true):(Q5.endLine==pos.line)=true/\args.length<20/\args.all g_=true/\s_ o=true:=by
 unfold kQ at h
 simp only [dk,decide_eq_true_eq] at h
 exact gN h.1.1.1 h.1.1.2 h.1.2 h.2
theorem qk(h:kQ Q5 pos o args=true)(env:Env):fF (.Call (.Attribute o name Q5) args [] pos) env=(do
   let ov<-fF o env
   ft Q5.atName
   let (f,first)<-eS [ov] (kx ov name (do return (<-importBound o env).getD true))
   kZ pos f first (eI pos (cO args env)) []):=by
 refine fD (mB h) λ h1 h2 h3 h4=>(?_:(do
  let ov<-AE o name env (fF o env)
  ft Q5.atName
  methodCall o name Q5 pos env ov (args.length+([]:List Eb).length) (eI pos (cO args env)) (o5 pos (jF [] env)))=_)
 rewrite [FU h4]
 refine congrArg _ (funext λ ov=>congrArg _ (funext λ V=>?_))
 unfold methodCall methodCallForm methodCallPos
 exact ah (uI h3) (ah h1 (ah (decide_eq_true (show args.length+([]:List Eb).length+(if (o5 pos (jF [] env)).isEmpty=true then 0 else 1)<30 from aq h2 (by decide))) rfl))
theorem j6(h:qy e=true)(env:Env)(x:Value):cP e env x=dG x:=by
 cases e<;>first | rfl | exact (jD h).elim
end
end
section
noncomputable def Iy(p:fB)(q:Str×Addr):Bool:=DT (KK p) (.ref q.2)&& !(q.1==("__debug__":Str))
theorem zT(p:fB):Cm.all (Iy p)=true:=by kernel_rfl
theorem qD(h:te.lookup x=some f):nsLook x (fields A S)=none:=by
 have:te.all (λ q=>(nsLook q.1 (fields A S)).isNone)=true:=rfl
 exact Option.isNone_iff_eq_none.mp (bV.mp this _ (dW h))
section
variable{w:Gx->Wf}{G:Gx}{F:c_}{m:dZ}{z:Zs}{U:AH}{C:Cx}{n:Nat}{Q:VQ}
noncomputable def t5(ty:String)(name:Str)(f:String):Prop:=Slot ty name f/\xJ (.builtin f)=dG (.type "method_descriptor")
theorem Kf(h:wQ.lookup name=some f):t5 "list" name f:=by
 have h:=dW h
 simp only [wQ,aL,dU,or_false,Eo] at h
 rcases h with ⟨rfl,rfl⟩ | ⟨rfl,rfl⟩
 ·exact ⟨PySem.F.slot_list_append,PySem.F.type_list_append⟩
 ·exact ⟨rQ,PySem.F.type_list_extend⟩
theorem LQ(h:xe.lookup name=some f):t5 "dict" name f:=by
 have h:=dW h
 simp only [xe,aL,dU,or_false,Eo] at h
 rcases h with ⟨rfl,rfl⟩ | ⟨rfl,rfl⟩ | ⟨rfl,rfl⟩
 ·exact ⟨lx,PySem.F.type_dict_get⟩
 ·exact ⟨pV,PySem.F.type_dict_setdefault⟩
 ·exact ⟨rR,PySem.F.type_dict_update⟩
theorem BZ(S:nC w)(g:GF G F)(k:z.ok G U)(hc:kQ Q5 pos o args=true)(hs:t5 "list" name f)
  (h:(w G).e o m z (Nx (w G) G f args m Q)):WE (CX G.X) F G.n (.Call (.Attribute o name Q5) args [] pos) (cH G.me m) U (pv G Q):=
 Dz (qk hc _) (d5 (mB hc).2.2.1) hs.1 hs.2 ((S.e h g k).bd (α:=λ V=>True) λ ov QM U1 QF q=>by
  refine ck (q.1.run U1 QF) λ a xs e hr=>?_
  subst e
  exact lc a xs rfl hr ((S.l q.2 g QF).bd λ vs Q3 QB QN q=>q.run F _ QB QN))
theorem CF(S:nC w)(g:GF G F)(k:z.ok G U)(hc:kQ Q5 pos o args=true)(hs:t5 "dict" name f)
  (h:(w G).e o m z (NJ (w G) G f args m Q)):WE (CX G.X) F G.n (.Call (.Attribute o name Q5) args [] pos) (cH G.me m) U (pv G Q):=
 DA (qk hc _) (d5 (mB hc).2.2.1) hs.1 hs.2 ((S.e h g k).bd (α:=λ V=>True) λ ov QM U1 QF q=>by
  refine ck (q.1.run U1 QF) λ a xs e hr=>?_
  subst e
  exact lc a xs rfl hr ((S.l q.2 g QF).bd λ vs Q3 QB QN q=>q.run F _ QB QN))
theorem zl(S:nC w)(h:Bs (w G) G o name args m z Q)(g:GF G F)(k:z.ok G U)(hc:kQ Q5 pos o args=true):WE (CX G.X) F G.n (.Call (.Attribute o name Q5) args [] pos) (cH G.me m) U (pv G Q):=
 fS.of h (λ f e h=>BZ S g k hc (Kf e) h) λ V h=>fS.of h (λ f e h=>CF S g k hc (LQ e) h) λ V h=>by
  refine aU h.of λ e h=>?_
  have e:=cG e;subst e
  exact Els.of h (λ V h=>BZ S g k hc ⟨uq,PySem.F.type_list_pop⟩ h) λ V h=>CF S g k hc ⟨lw,PySem.F.type_dict_pop⟩ h
theorem Fg(h:Fh v=true):∃b,v=.builtin b:=by
 cases v<;>first | exact ⟨_,rfl⟩ | exact (jD h).elim
theorem Ex(S:nC w)(h:J8 (w G) G x args RE m z Q (gP G (.Call (.Name x p) args RE pos) m z Q))(hp:args.all g_=true)(hk:F.env.kindOf x=some .globalImplicit)(g:GF G F)(k:z.ok G U):
  WE (CX G.X) F G.n (.Call (.Name x p) args RE pos) (cH G.me m) U (pv G Q):=by
 have ne:∀{f:Value},(Fh f&& !args.isEmpty)=true->(∃b,f=.builtin b)/\∃e r,args=e::r:=λ h=>by
  (try clear hp);refine aU (bg.mp h) λ h1 h2=>⟨Fg h1,?_⟩
  clear h;cases args with
  | nil=>exact (jD h2).elim
  | cons e r=>exact yD e r rfl
 cases RE with
 | nil=>
  refine fS.of h (λ f e h=>?_) λ V h=>fS.of h (λ f e h=>?_) λ V h=>h.run F U g k
  ·have:=bg.mp (bV.mp (zT G.X.w.params) _ (dW e))
   exact vN hk (PH _ (dW e)) (by simpa using this.2) this.1 (d5 hp) ((S.l h g k).bd λ vs Q3 QB QN q=>q.run QB QN)
  ·refine cu (yN e) λ h1 h2 h3=>?_
   have e1:=dW e
   (try clear e);rcases h3 with ⟨b,rfl⟩ | ⟨b,rfl⟩
   ·exact nr hk (GU _ e1) (Hg e1) h1 h2 (d5 hp) ((S.l h g k).bd λ vs Q3 QB QN q=>BR q QN)
   ·exact qY hk (GU _ e1) (Hg e1) h1 h2 (d5 hp) ((S.l h g k).bd λ vs Q3 QB QN q=>BR q QN)
 | cons k1 r=>cases k1 with
  | mk n1 v1 p1=>cases n1 with
   | none=>cases r<;>exact cU h
   | some n1=>cases r with
    | nil=>
     refine fS.of h (λ f e h=>(aU h.of λ h0 h=>?_)) λ V h=>h.run F U g k
     obtain ⟨⟨b,rfl⟩,e',r,rfl⟩:=ne h0
     exact cu (yN e) λ h1 h2 V=>(vM hk (GU _ (dW e)) (Hg (dW e)) h1 h2 (GY hp) (d5 hp) ((S.l h g k).bd λ vs Q3 QB QN q=>(S.e q g QN).bd (α:=λ V=>True) λ v SL QG RB q=>q.run F _ QG RB))
    | cons k2 r=>cases k2 with
     | mk n2 v2 p2=>cases n2 with
      | none=>exact cU h
      | some n2=>cases r with
       | cons=>exact cU h
       | nil=>
        refine fS.of h (λ f e h=>(aU h.of λ h0 h=>?_)) λ V h=>h.run F U g k
        obtain ⟨⟨b,rfl⟩,e',r,rfl⟩:=ne h0
        exact cu (yN e) λ h1 h2 V=>(vL hk (GU _ (dW e)) (Hg (dW e)) h1 h2 (GY hp) (d5 hp) ((S.l h g k).bd λ vs Q3 QB QN q=>(S.e q g QN).bd (α:=λ V=>True) λ v SL QG RB q=>(S.e q g RB).bd (α:=λ V=>True) λ v S7 U4 Si q=>q.run F _ U4 Si))
theorem zo(S:nC w)(h:Bu (w G) G f args RE pos m z Q (gP G (.Call f args RE pos) m z Q))(g:GF G F)(k:z.ok G U):WE (CX G.X) F G.n (.Call f args RE pos) (cH G.me m) U (pv G Q):=by
 cases f with
 | Attribute o name Q5=>
  refine Els.of h (λ hc h2=>?_) λ V h=>h.run F U g k
  (try clear h);refine aU (bg.mp hc) λ SP hk=>?_
  clear hc;cases RE with
  | cons=>exact (jD hk).elim
  | nil=>
   refine Els.of h2 (λ hm h3=>?_) λ V h3=>zl S h3 g k SP
   clear h2;refine ck (to (G:=G) hm) λ x p QI hx=>?_;subst QI
   refine pz h3.of λ A SS E QL h4=>?_;subst QL
   exact fS.of h4 (λ f e1 h=>Dy (show St G.me A SS U E from k) hx (qk SP _) (d5 (mB SP).2.2.1) (qD e1) (Nn _ (dW e1)) ((S.l h g k).bd λ vs Q3 QB QN q=>q.run QB QN)) λ V h=>h.elim
 | Name x p=>
  exact aU (Gd.of h) λ hp h=>(aU (bg.mp hp) λ Q4 Ur=>(Ex S h Q4 (g.kind _ _ (cG (bg.mp Ur).2) (by decide)) g k))
 | _=>exact gP.run h F U g k
theorem zE{p:Str->Bool}:(m.filter λ q=>p q.1).lookup x=if p x=true then m.lookup x else none:=by
 induction m with
 | nil=>refine eH (λ V=>?_) λ V=>?_<;>rfl
 | cons q r ih=>
  refine ah bG (ah bq ?_)
  cases e:x==q.1 with
  | true=>
   have e:=cG e;subst e
   cases hp:p q.1 with
   | true=>exact ah (if_pos rfl) (ah (if_pos rfl) (af bq (ah e rfl)))
   | false=>exact ah (if_neg dK) (ah (if_neg dK) (af ih (ah hp (af (if_neg dK) rfl))))
  | false=>
   refine eH (λ V=>?_) λ V=>?_
   ·exact af bq (ah e ih)
   ·exact ih
theorem lU(me:Addr)(sc:Scope)(m:dZ):cH me (n4 sc m)=iJ sc (cH me m):=by
 funext x
 unfold iJ cH n4
 refine ah (zE (p:=λ x=>sc.names.lookup x==some .free)) ?_
 by_cases h:sc.names.lookup x=some .free
 ·exact ah (if_pos h) (ah (if_pos (ah h rfl)) rfl)
 ·refine ah (if_neg h) (ah (if_neg (by exact io beq_iff_eq h)) ?_);rfl
theorem dS(g:GF G F)(O:F.Ok C n)(h:eZ G x=true):Stores F x:=by
 unfold eZ at h
 simp only [dk,rr,bne_iff_ne,ne_eq,beq_iff_eq] at h
 refine du (beq_false_of_ne h.1.1) (beq_false_of_ne h.1.2) ?_
 rcases h.2 with h3 | h3
 ·exact .inl (g.kind _ _ h3 (by decide))
 ·have:=g.kind _ _ h3.1 (by decide)
  exact .inr ⟨this,O.cok _ (.inl this) h3.2⟩
structure Oq(G:Gx)(F:c_)(sc:Scope)(t:Str):Prop where
 ok:pR F sc
 nf:(sc.names.lookup t==some .free)=false
 st:∀L2 mL,Stores (Fc F sc L2 mL) t
 gf:∀L2 mL,GF (G.sub G.n sc.names) (Fc F sc L2 mL)
theorem pb(g:GF G F)(O:F.Ok C n)(h:pe G sc t=true):Oq G F sc t:=by
 unfold pe at h
 simp only [dk,rr,bne_iff_ne,ne_eq,beq_iff_eq,bV,decide_eq_true_eq] at h
 refine cu h λ QT QW h6=>?_;clear h;refine aU QT λ Rp h3=>?_;clear QT;obtain ⟨h1,h2⟩:=Rp;refine aU QW λ h4 h5=>?_;clear QW
 have rl:∀L2 mL x,(Fc F sc L2 mL).env.kindOf x=(sc.names.lookup x).map λ k=>if (k==.free&&F.env.kindOf x==some .cell)=true then .cell else k:=λ L2 mL x=>gZ sc F.env O.ek x
 have hkind:∀L2 mL x k,sc.names.lookup x=some k->k≠ .free->(Fc F sc L2 mL).env.kindOf x=some k:=λ L2 mL x k e ne=>af (rl ..) (ah e (af (fb ..) (ah (beq_false_of_ne ne) rfl)))
 refine ⟨⟨h1,h2,λ x hx e=>⟨?_,(h3 x hx).1⟩,λ x hx=>(h3 x hx).1⟩,?_,λ L2 mL=>⟨beq_false_of_ne h4,beq_false_of_ne h5,?_⟩,λ L2 mL=>⟨hkind L2 mL,λ x e=>?_,?_,?_,λ V V q V=>q.elim,λ q=>q.elim⟩⟩
 ·rcases (h3 x hx).2 with (q | q) | q
  ·exact absurd e q
  ·exact .inl (g.kind _ _ q (by decide))
  ·exact g.free _ q
 ·rcases h6 with q | q<;>refine ah q ?_<;>rfl
 ·rcases h6 with q | q
  ·exact .inl (hkind L2 mL _ _ q (by decide))
  ·exact .inr ⟨hkind L2 mL _ _ q (by decide),bW.mp (fN _ _ _ (.inl q))⟩
 ·refine ah (rl ..) (ah (show sc.names.lookup x=some .free from e) (ah (fb ..) (eH (λ V=>?_) λ V=>?_)))
  ·exact .inl rfl
  ·exact .inr rfl
 ·exact ((ah h1 rfl):(if sc.kind.isAnnotationScope=true then _ else sc.kind)=_)
 ·exact ((ah h1 rfl):(sc.kind==.module&&_)=false)
theorem XD.mono{m:Str->Option Value}{Q Q' :Value->AH->Prop}(h:XD C F n QO t ifs sc m x U Q)(k:∀v U,Q v U->Q' v U):XD C F n QO t ifs sc m x U Q' :=by
 rcases h with h | h
 ·refine CC h λ a ao xs J h1 h2 h3 h4 h5 h6 h7=>?_;clear h
  exact .inl (yB a ao xs J h1 h2 h3 h4 h5 h6 (λ ys U' b hj hb=>k _ _ (h7 ys U' b hj hb)))
 ·obtain ⟨d,kvs,J,e,hd,hz,h0,hsee,Tp,Rk⟩:=h
  exact .inr ⟨d,kvs,J,e,hd,hz,h0,hsee,Tp,λ o ys U' b hj hb=>k _ _ (Rk o ys U' b hj hb)⟩
theorem sA(S:nC w){Gi:Gx}{Fi:c_}{Vv:Value->Zs->Prop}{WH:Zs->Prop}{K1:Value->AH->Prop}{K0:AH->Prop}(gi:GF Gi Fi)(ht:HO (w Gi) QO ifs mi z Vv WH)(hk:z.ok Gi U)
  (h1:∀r z' U',z'.ok Gi U' ->Vv r z' ->K1 r U') (h0:∀z' U',z'.ok Gi U' ->WH z' ->K0 U'):ra (CX Gi.X) Fi Gi.n QO ifs (cH Gi.me mi) U K1 K0:=by
 have wk:∀{U' :AH} {z' :Zs},(w Gi).e QO mi z' Vv->z'.ok Gi U' ->WE (CX Gi.X) Fi Gi.n QO (cH Gi.me mi) U' K1:=λ h k=>(S.e h gi k).bd (α:=λ V=>True) λ v z' U' k' q=>h1 v z' U' k' q
 cases ifs with
 | nil=>exact sJ (wk ht hk)
 | cons c r=>cases r with
 | cons=>exact cU ht
 | nil=>exact DP ((S.t ht gi hk).bd λ b QM U1 QF q=>Iu q (λ q=>wk q QF) λ q=>h0 _ _ QF q)
theorem qw(z:Zs)(n' :Nat)(Xx:List (Str×dM)):z.ok (G.sub n' Xx) U=z.ok G U:=by cases z<;>rfl
theorem sK.xd(S:nC w)(h:sK w G QO t ifs sc m Q x z)(k:z.ok G U)(hg:∀L2 mL,GF (G.sub G.n sc.names) (Fc F sc L2 mL)):
  XD (CX G.X) F G.n QO t ifs sc (cH G.me m) x U (pv G Q):=by
 cases h with
 | mk a ao xs ι zf J i0 hx hi hz h0 hs see turn fin=>
  refine .inl (yB a ao xs (λ i ys U=>∃j,J i ys j/\(zf j).ok G U) hx hi hz ⟨i0,h0,hs U k⟩ (λ i ys U p=>?_) (λ L2 mL i v ys U' hv p=>?_) (λ ys U' b p hb=>?_))
  ·refine aM p λ j hj hk=>?_;clear p;exact see i ys j U hj hk
  ·refine aM p λ j hj hk=>?_;clear p
   refine dI (lU ..) (ah (dA ..) (sA (Gi:=G.sub G.n sc.names) S (hg L2 mL) (turn i ys j v hv hj ⟨_,hk⟩) (ah (qw _ _ _) hk) (λ r z' U' k' q=>?_) λ z' U' k' q=>?_))
   ·obtain ⟨j',hj',hs'⟩:=q
    exact cC j' hj' (hs' _ (dI (qw _ _ _) k'))
   ·obtain ⟨j',hj',hs'⟩:=q
    exact cC j' hj' (hs' _ (dI (qw _ _ _) k'))
  ·refine aM p λ j hj hk=>?_;clear p
   exact ⟨_,jd hk hb,fin ys j hj ⟨_,hk⟩ b⟩
 | lock A SS E d kvs E' J ez hx hz t1 t2 h0 turn fin=>
  subst ez
  have T:St G.me A SS U E:=k
  refine .inr ⟨d,kvs,λ o i ys U=>J i ys/\St G.me A SS U (E' o),hx,T.at_ (t1 Qc).mem,hz,λ o=>⟨h0,T.turn (t1 o)⟩,λ o i ys U p=>p.2.at_ (t2 o).mem,λ o L2 mL i v ys U' hv p=>?_,λ o ys U' b p hb=>?_⟩
  ·obtain ⟨u,hu,rfl⟩:∃u,(kvs.map (·.1))[i]? =some u/\v=vi u:=by
    rw [ay] at hv
    obtain ⟨p,h1,h2⟩:=aQ.mp hv
    exact ⟨p.1,by rw [ay,h1];rfl,h2.symm⟩
   refine dI (lU ..) (ah (dA ..) (sA (Gi:=G.sub G.n sc.names) S (hg L2 mL) (turn o i ys u hu p.1) p.2 (λ r z' U' k' q=>⟨q.2,q.1 _ (dI (qw _ _ _) k')⟩) λ z' U' k' q=>⟨q.2,q.1 _ (dI (qw _ _ _) k')⟩))
  ·exact ⟨.s A SS ((b,.list ys)::E),(p.2.turn (t2 o)).fresh hb,fin ys (by rw [<-ae (f:=λ p=>vi p.1)];exact p.1) b⟩
theorem O6{a b:Prop}(h:a):if true=true then a else b:=h
theorem wy(l:List (Int×Value))(k:Int)(v:Value):(cW l k v).length<=l.length+1:=by
 unfold cW
 refine eH (λ V=>?_) λ V=>?_
 ·exact ah (ae ..) (dR _)
 ·exact ah av (az _)
theorem yF(S:nC w){J:List (Int×Value)->Prop}{K:List (Int×Value)->AH->Prop}(Xg:Gi.me=G.me/\Gi.n=G.n/\Gi.X=G.X)(gi:GF Gi Fi)(hy:ys.length<=i)(hi:i<10000000)
  (h:(w Gi).e k mi z (Ir (w Gi) G v mi z0 J ys)) (hk:z.ok Gi U) (K1:∀ys U',J ys->ys.length<=i+1->z0.ok G U' ->K ys U'):ED (CX Gi.X) Gi.n k v Fi ys (cH Gi.me mi) U K:=by
 refine ⟨aP (au hy hi),(S.e h gi hk).bd (α:=λ V=>True) λ kv QM U1 QF q=>(aM (la.of q) λ j QY q=>?_)⟩;subst QY
 refine (S.e q gi QF).bd (α:=λ V=>True) λ vv Q3 QB QN q=>⟨j,rfl,K1 _ _ q.2 (ac (wy _ _ _) (cw hy)) (q.1 _ ?_)⟩
 (try clear q);refine cu Xg λ e1 e2 e3=>?_;clear Xg
 (try clear q);cases Q3 with
 | no E=>exact QN
 | s A S E=>exact ((dI e1 QN):St G.me A S QB E)
theorem GX{SS:SS}{me:Addr}{o:Obj}(T:St me A SS U E):St me A (SS.sLock (some o)) (U.put (A .heats) (.ro o (.dict (lr vi SS.heats)))) E:=
 T.put .heats trivial rfl (by intro u hu;cases u<;>first | exact .inr rfl | exact absurd rfl hu) {T.fit with}
theorem x_{SS:SS}{me:Addr}{o:Obj}(hl:SS.lock=none)(T:St me A (SS.sLock (some o)) U E):St me A SS (U.put (A .heats) (.dict (lr vi SS.heats))) E:=
 T.put (S' :=SS) .heats trivial (((ah hl rfl):some (kM SS.lock _)=_)) (by intro u hu;cases u<;>first | exact .inr rfl | exact absurd rfl hu) {T.fit with}
theorem sr{SS:SS}(hl:SS.lock=none)(T:St me A SS U E):U.get (A .heats)=some (.dict (lr vi SS.heats)):=T.has .heats (((ah hl rfl):some (kM SS.lock _)=_))
theorem E6{i:Nat}(h:((lr vi l).map λ p=>vi p.1)[i]? =some v):∃u,(l.map (·.1))[i]? =some u/\v=vi u:=by
 unfold lr at h
 replace h:=ay▸bC▸h
 exact aM (aQ.mp h) λ p h1 h2=>(cC p.1 (af ay (ah h1 rfl)) h2.symm)
theorem M5.dx(S:nC w)(h:M5 w G k v t sc m Q x z)(hk:z.ok G U)(c:Oq G F sc t):
  Oy (CX G.X) F G.n k v ⟨.Name t tp,it,[],0⟩ [] sc x (cH G.me m) U λ ys U' =>∀b,U'.get b=none->pv G Q (.ref b) (U'.put b (.dict ys)):=by
 cases h with
 | mk a ao xs J hx hi hz h0 see turn fin=>
  exact .inl ⟨a,ao,xs,hx,hi,see _ hk,λ L2 mL=>⟨λ i ys U' =>J i ys/\ys.length<=i/\z.ok G U',⟨h0,az _,hk⟩,λ i ys U' p=>see _ p.2.2,λ i u ys U' hu p=>(fE (c.st L2 mL) ⟨mz c.nf,ol (O6 (dI (lU ..) (ah (dA ..) (yF (G:=G) (Gi:=G.sub G.n sc.names) (z0:=z) S ⟨rfl,rfl,rfl⟩ (c.gf L2 mL) p.2.1 (by have:=(ag.mp hu).1;exact aq this (ac hz (aj _ _))) (turn i ys u hu p.1) p.2.2 λ ys U' h1 h2 h3=>⟨h1,h2,h3⟩))))⟩),λ ys U' p b hb=>⟨_,jd p.2.2 hb,fin ys p.1 b⟩⟩⟩
 | heats A SS E J ez hx hl h0 turn fin=>
  subst ez
  have T:St G.me A SS U E:=hk
  have hlen:SS.heats.length<=100000:=T.fit.z5
  refine .inr ⟨_,_,hx,sr hl T,λ o L2 mL=>⟨λ i ys U' =>J i ys/\ys.length<=i/\St G.me A (SS.sLock (some o)) U' E,⟨h0,az _,GX T⟩,λ i ys U' p=> .inl (p.2.2.has .heats rfl),λ i u ys U' hu p=>?_,λ ys U' p=>⟨p.2.2.has .heats rfl,λ b hb=>?_⟩⟩⟩
  ·refine aM (E6 hu) λ u hu' Rb=>?_;subst Rb
   exact fE (c.st L2 mL) ⟨mz c.nf,ol (O6 (dI (lU ..) (ah (dA ..) (yF (G:=G) (Gi:=G.sub G.n sc.names) (z0:=.s A (SS.sLock (some o)) E) S ⟨rfl,rfl,rfl⟩ (c.gf L2 mL) p.2.1 (by have:=(ag.mp hu').1;replace this:=(ae ..)▸this;exact aq this (ac hlen (aj _ _))) (turn o i ys u hu' p.1) p.2.2 λ ys U' h1 h2 h3=>⟨h1,h2,h3⟩))))⟩
  ·have T' :=(x_ hl p.2.2).fresh (o:=.dict ys) hb
   refine ⟨.s A SS ((b,.dict ys)::E),T',fin ys ?_ b⟩
   have:=p.1
   unfold lr at this
   replace this:=(ae ..)▸(ae ..)▸this
   exact this
theorem rV(S:nC w){L R:Prop}(h0:MQ gens=true)(h:wC w G QO gens sc m z Q L)(g:GF G F)(k:z.ok G U)(O:F.Ok (CX G.X) G.n)(hl:L->R)
  (hr:∀t tp it ifs,gens=[⟨.Name t tp,it,ifs,0⟩]->Oq G F sc t->qy it=true->WE (CX G.X) F G.n it (cH G.me m) U (λ x U1=>XD (CX G.X) F G.n QO t ifs sc (cH G.me m) x U1 (pv G Q))->R):R:=by
 cases gens with
 | nil=>exact hl h
 | cons g0 r=>cases g0 with
 | mk t it ifs ia=>cases r with
 | cons=>exact hl h
 | nil=>
  refine fS.of h (λ t2 e h=>(aU h.of λ hc h=>(aU (bg.mp hc) λ h1 h2=>?_))) λ V h=>hl h
  have c:=pb g O h1
  have hia:ia=0:=by
   have:=bV.mp h0 _ (.head _)
   exact cG this
  exact hr t2.1 t2.2 it ifs (ah (iH e) (ah hia rfl)) c h2 ((S.e h g k).bd (α:=λ V=>True) λ x QM U1 QF q=>q.xd S QF c.gf)
theorem s7(S:nC w){Q:Option Int->Zs->Prop}(h:EJ (w G) e m z Q)(g:GF G F)(k:z.ok G U):WP (CX G.X) F G.n e (cH G.me m) U (pv G Q):=by
 cases e with
 | none=>exact ⟨z,k,h⟩
 | some e=>
  exact Gj ((S.e h g k).bd (α:=λ V=>True) λ v z' U' k' q=>(aM (la.of q) λ i e q=>(cC i e ⟨z',k',q⟩)))
theorem yv(S:nC w){f:List Value->aT}(h:(w G).l es m z (Ip f Q))(g:GF G F)(k:z.ok G U):
  WL (CX G.X) F G.n es (cH G.me m) U λ vs U1=>HN (f vs) vs.length U1 (pv G Q):=
 (S.l h g k).bd λ vs QM U1 QF q=>⟨QM.hp G,QM.E,dI GT QF,q.1,λ a U' k' =>⟨QM.new a (f vs),by clear QF q;cases QM<;>exact k',q.2 a⟩⟩
theorem wA(S:nC w)(h:Gd (J5 s) ((w G).e v m z (GZ (w G) G s m Q)))(g:GF G F)(k:z.ok G U):WE (CX G.X) F G.n (.Subscript v s p) (cH G.me m) U (pv G Q):=by
 refine aU h.of λ hs h=>(Dx ?_ ((S.e h g k).bd (α:=λ V=>True) λ o QM U1 QF q=>(S.e q g QF).bd (α:=λ V=>True) λ b Q3 QB QN q=>q.run F _ QB QN))
 (try clear h);cases s<;>first | exact λ V V=>⟨_,rfl⟩ | exact (jD hs).elim
theorem Bq(S:nC w)(h:GP (w G) G v s m z Q)(g:GF G F)(k:z.ok G U):WE (CX G.X) F G.n (.Subscript v s p) (cH G.me m) U (pv G Q):=by
 cases s with
 | Slice lo hi st p2=>
  refine Kp (λ V V=>by (try clear h);cases st<;>exact ⟨_,rfl⟩) ((S.e h g k).bd (α:=λ V=>True) λ o QM U1 QF q=>(aM (E8.of q) λ a Q8 q=>?_));subst Q8
  exact cC a rfl ((s7 S q g QF).bd λ l Q3 QB QN q=>(s7 S q g QN).bd λ u SL QG RB q=>(s7 S q g RB).bd λ c S7 U4 Si q=>q.run U4 Si)
 | _=>exact wA S h g k
theorem HY(S:nC w){e:Expr}(h:OZ w G e m z Q)(g:GF G F)(k:z.ok G U):WE (CX G.X) F G.n e (cH G.me m) U (pv G Q):=by
 cases e with
 | Name x p=>exact zk h g k
 | Constant c j p=>exact wB h k
 | BinOp l op r p=>exact DF ((S.e h g k).bd (α:=λ V=>True) λ a QM U1 QF q=>(S.e q g QF).bd (α:=λ V=>True) λ b Q3 QB QN q=>EP q QN)
 | UnaryOp op x p=>exact L9 ((S.e h g k).bd (α:=λ V=>True) λ a QM U1 QF q=>Ih q QF)
 | Compare l RM rs p=>
  cases RM with
  | nil=>exact cU h
  | cons op RM=>cases RM with
  | cons=>cases rs<;>exact cU h
  | nil=>cases rs with
  | nil=>exact cU h
  | cons r rs=>cases rs with
  | cons=>exact cU h
  | nil=>
   exact aU (Gd.of h) λ hb h=>(Jb ((b9 _).mp hb) ((S.e h g k).bd (α:=λ V=>True) λ a QM U1 QF q=>(S.e q g QF).bd (α:=λ V=>True) λ b Q3 QB QN q=>qg q QN))
 | IfExp t b o p=>exact Ma ((S.t h g k).bd λ c QM U1 QF q=>Iu q (λ q=>S.e q g QF) λ q=>S.e q g QF)
 | Subscript v s p=>exact Bq S h g k
 | Attribute o attr p=>exact rW h g k
 | Call f args RE p=>exact zo S h g k
 | List es p=>exact Fq (yv S h g k)
 | Tuple es j p=>exact nT (yv S h g k)
 | Dict ks vs p=>
  cases ks with
  | nil=>cases vs with
   | nil=>exact DD λ a ha=>⟨z.new a (.dict []),jd k ha,h a⟩
   | cons=>exact gP.run h F U g k
  | cons k1 ks=>cases k1 with
  | none=>exact gP.run h F U g k
  | some k1=>cases ks with
  | cons=>exact gP.run h F U g k
  | nil=>cases vs with
  | nil=>exact gP.run h F U g k
  | cons v vs=>cases vs with
  | cons=>exact gP.run h F U g k
  | nil=>
   refine DB λ D hD=>(S.e (h D) g (jd k hD)).bd (α:=λ V=>True) λ kv QM U1 QF q=>(aM (la.of q) λ i Rc q=>?_);subst Rc
   exact (S.e q g QF).bd (α:=λ V=>True) λ vv Q3 QB QN q=>⟨i,rfl,q.run QB QN⟩
 | ListComp QO gens sc p=>
  intro O
  exact aU (Gd.of h) λ h0 h=>(rV S h0 h g k O (λ h=>h.run F U g k O) λ t tp it ifs e c h2 hx=>by clear h h0;subst e;exact w0 c.ok (j6 h2 _) c.nf c.st hx O)
 | DictComp kk v gens sc p=>
  intro O
  refine aU (Gd.of h) λ h0 h=>?_
  cases gens with
  | nil=>exact gP.run h F U g k O
  | cons g0 r=>cases g0 with
  | mk t it ifs ia=>cases r with
  | cons=>exact gP.run h F U g k O
  | nil=>
   refine fS.of h (λ t2 e h4=>?_) λ V h=>h.run F U g k O
   (try clear h);refine aU h4.of λ hc h5=>?_
   clear h h4;refine aU (bg.mp hc) λ h1 h6=>?_
   clear hc;refine aU (bg.mp h6) λ h2 h3=>?_
   have c:=pb g O h1
   clear h6;cases cG (bV.mp h0 _ (.head _):(ia==0)=true)
   clear h0;cases qs.mp h3
   cases iH e
   exact DE c.ok (j6 h2 _) ((S.e h5 g k).bd (α:=λ V=>True) λ x QM U1 QF q=>M5.dx S q QF c) O
 | _=>exact gP.run h F U g k
end
end
section
section
variable{w:Gx->Wf}{G:Gx}{F:c_}{m:dZ}{z:Zs}{U:AH}{C:Cx}{n:Nat}
theorem WV.bd{f:Value->Sem Bool}{m0:Str->Option Value}{Q:Bool->Zs->Prop}{Q' :Bool->AH->Prop}(h:WV C F n f a m0 U (pv G Q))(k:∀v z U,z.ok G U->Q v z->Q' v U):WV C F n f a m0 U Q' :=λ a' ea O Z s W R K=>
 h a' ea O Z s _ R λ v s U R p=>K _ _ _ R (p.casesOn λ z ok q=>k _ _ _ ok q)
theorem Ev(h:HP e=true):∀env Sl,isTrue e env Sl=(do let v<-Sl;ft e.pos;eS [v] (kW v)):=by
 cases e<;>first | exact λ V V=>rfl | exact (jD h).elim
theorem zm(S:nC w){Q:Bool->Zs->Prop}(h:Bt (w G) G l RM rs m z Q)(g:GF G F)(k:z.ok G U):WT (CX G.X) F G.n (.Compare l RM rs p) (cH G.me m) U (pv G Q):=by
 cases RM with
 | nil=>exact cU h
 | cons op RM=>cases RM with
  | nil=>cases rs with
   | nil=>exact cU h
   | cons r rs=>cases rs with
    | cons=>exact cU h
    | nil=>
     exact aU (Gd.of h) λ hb h=>(Gg ((b9 _).mp hb) ((S.e h g k).bd (α:=λ V=>True) λ a QM U1 QF q=>(S.e q g QF).bd (α:=λ V=>True) λ b Q3 QB QN q=>V2.bd (qg q QN) λ c SL QG RB q=>qf q RB))
  | cons Sf RM=>cases RM with
   | cons=>exact cU h
   | nil=>cases rs with
    | nil=>exact cU h
    | cons r rs=>cases rs with
     | nil=>exact cU h
     | cons r2 rs=>cases rs with
      | cons=>exact cU h
      | nil=>
       exact aU (Gd.of h) λ hb h=>(Ar ((b9 _).mp hb) ((S.e h g k).bd (α:=λ V=>True) λ a QM U1 QF q=>(S.e q g QF).bd (α:=λ V=>True) λ b Q3 QB QN q=>V2.bd (qg q QN) λ c SL QG RB q=>WV.bd (qf q RB) λ t S7 U4 Si q=>
        Iu q (λ q=>(S.e q g Si).bd (α:=λ V=>True) λ d Y3 U5 We q=>V2.bd (qg q We) λ c Y2 U6 Wd q=>qf q Wd) λ q=>⟨S7,Si,q⟩))
theorem Bp(S:nC w){Q:Bool->Zs->Prop}(h:Gd (HP e) ((w G).e e m z (zK Q)))(g:GF G F)(k:z.ok G U):WT (CX G.X) F G.n e (cH G.me m) U (pv G Q):=aU h.of λ e h=>(Du (Ev e) ((S.e h g k).bd (α:=λ V=>True) λ v QM U1 QF q=>qf q QF))
theorem HV(S:nC w){Q:Bool->Zs->Prop}(h:OW (w G) G e m z Q)(g:GF G F)(k:z.ok G U):WT (CX G.X) F G.n e (cH G.me m) U (pv G Q):=by
 cases e with
 | BoolOp op es p=>exact Gh (S.a h g k)
 | UnaryOp op x p=>
  refine aU (Gd.of h) λ e h=>?_
  have e:=cG e;subst e
  exact I_ ((S.t h g k).bd λ b QM U1 QF q=>⟨QM,QF,q⟩)
 | Compare l RM rs p=>exact zm S h g k
 | _=>exact Bp S h g k
theorem zp(S:nC w){Q:Bool->Zs->Prop}(h:Bv (w G) op es m z Q)(g:GF G F)(k:z.ok G U):WA (CX G.X) F G.n op es (cH G.me m) U (pv G Q):=by
 cases op with
 | And=>
  cases es with
  | nil=>exact xE ⟨z,k,h⟩
  | cons e es=>exact Jc ((S.t h g k).bd λ b QM U1 QF q=>Iu q (λ q=>S.a q g QF) λ q=>⟨QM,QF,q⟩)
 | Or=>
  cases es with
  | nil=>exact Aw ⟨z,k,h⟩
  | cons e es=>exact Mb ((S.t h g k).bd λ b QM U1 QF q=>Iu q (λ q=>⟨QM,QF,q⟩) λ q=>S.a q g QF)
theorem HX(S:nC w){Q:List Value->Zs->Prop}(h:OY (w G) es m z Q)(g:GF G F)(k:z.ok G U):WL (CX G.X) F G.n es (cH G.me m) U (pv G Q):=by
 cases es with
 | nil=>exact jW ⟨z,k,h⟩
 | cons e es=>
  exact aU (Gd.of h) λ hp h=>(e_ (jR hp) ((S.e h g k).bd (α:=λ V=>True) λ v QM U1 QF q=>(S.l q g QF).bd λ vs Q3 QB QN q=>⟨Q3,QN,q⟩))
theorem WS.mem{m m' :Str->Option Value}{Q:fH->(Str->Option Value)->AH->Prop}(h:WS C F n b m U Q)(c:∀x v,m x=some v->m' x=some v):WS C F n b m' U Q:=λ O Z s W R K=>h O Z s W (R.forget c) K
theorem W1.mem{m m' :Str->Option Value}{Q:fH->(Str->Option Value)->AH->Prop}(h:W1 C F n b m U Q)(c:∀x v,m x=some v->m' x=some v):W1 C F n b m' U Q:=λ O Z s W R K=>h O Z s W (R.forget c) K
noncomputable def Ml(Q:fH->(Str->Option Value)->AH->Prop):fH->(Str->Option Value)->AH->Prop:=λ f m' U=>∃RG,(∀x v,RG x=some v->m' x=some v)/\Q f RG U
theorem WS.cov{m:Str->Option Value}{Q:fH->(Str->Option Value)->AH->Prop}(h:WS C F n b m U (Ml Q)):WS C F n b m U Q:=λ O Z s W R K=>
 h O Z s _ R λ f s m U R QI=>by refine aM QI λ RG c q=>?_;clear QI;exact K _ _ _ _ (R.forget c) q
theorem W1.cov{m:Str->Option Value}{Q:fH->(Str->Option Value)->AH->Prop}(h:W1 C F n b m U (Ml Q)):W1 C F n b m U Q:=λ O Z s W R K=>
 h O Z s _ R λ f s m U R QL=>by refine aM QL λ RG c q=>?_;clear QL;exact K _ _ _ _ (R.forget c) q
theorem W1.mono{m:Str->Option Value}{Q Q' :fH->(Str->Option Value)->AH->Prop}(h:W1 C F n b m U Q)(k:∀f m U,Q f m U->Q' f m U):W1 C F n b m U Q' :=λ O Z s W R K=>
 h O Z s _ R λ f s m U R q=>K _ _ _ _ R (k _ _ _ q)
theorem qu.ok(h:qu me m m'):∀x v,cH me m' x=some v->cH me m x=some v:=λ x v e=>by
 refine aM (aQ.mp e) λ w e1 e2=>?_
 unfold qu at h
 exact (DZ.mp h _ (dW e1)).trans (congrArg some e2)
theorem tb(h:nN e=true)(t:Option Expr)(l:Nat)(env:Env):iE e t l env=dG false:=by
 cases e<;>first | rfl | exact (jD h).elim
theorem Fz(h:er v' =v):Om (.ret v')=.ret v:=dI h rfl
theorem pQ(h:g_ e=true)(env:Env):fA (e::es) env=(false,jY e env)::fA es env:=by
 cases e<;>first | rfl | exact (jD h).elim
theorem IG(h:ts.all g_=true):fA ts env=ts.map λ t=>(false,jY t env):=by
 induction ts with
 | nil=>rfl
 | cons e es ih=>
  have h' :=bg.mp (uv▸h)
  rewrite [pQ h'.1];exact ah (ih h'.2) rfl
theorem I6(S:nC w)(g:GF G F)(O:F.Ok (CX G.X) G.n):∀{vs:List Value} {m:dZ} {z:Zs} {U:AH},MZ (w G) G ts vs m z Q->z.ok G U->ts.length=vs.length->
  Ax (CX G.X) F G.n ts vs (cH G.me m) U λ m' U' =>uk G Q .next m' U' :=by
 induction ts with
 | nil=>
  intro vs m z U h k hl
  obtain rfl:=d7 hl.symm
  exact yV ⟨m,z,rfl,k,h⟩
 | cons t ts ih=>
  intro vs m z U h k hl
  cases vs with
  | nil=>cases hl
  | cons v vs=>
   have hl2:ts.length=vs.length:=iR hl
   (try clear hl);cases t with
   | Name x p=>
    exact aU (Gd.of h) λ hs h=>(ki (fE (dS g O hs) (ah (dA ..) (ih h k hl2))))
   | Subscript o i p=>exact ki (Gp ((S.e h g k).bd (α:=λ V=>True) λ ov QM U1 QF q=>(S.e q g QF).bd (α:=λ V=>True) λ iv Q3 QB QN q=>WI.bd (q.run F _ QB QN) λ SL QG RB q=>ih q RB hl2))
   | _=>exact cU h
theorem B7{es:List Expr}(h:es.length=2):∃a b,es=[a,b]:=by
 match es,h with
 | [a,b],_=>exact yD a b rfl
inductive xH(G:Gx)(vs:List Expr):List Expr->Option (Str×Str)->Prop where
 | two (x y:Str) (p q:Pos) (h1:G.nm.lookup x=some .local) (h2:G.nm.lookup y=some .local) (h3:q.line=p.line) (h4:x≠y) (h5:vs.all (qo 8)=false) (h6:vs.all (oZ 8)=false):xH G vs [.Name x p,.Name y q] (some (x,y))
 | no (a b:Expr) (h:j7 a=none):xH G vs [a,b] none
 | cel (x y:Str) (p q:Pos) (h:G.nm.lookup x=some .cell):xH G vs [.Name x p,.Name y q] none
 | four (a b c d:Expr):xH G vs [a,b,c,d] none
 | five (a b c d e:Expr):xH G vs [a,b,c,d,e] none
theorem Nj{ts vs:List Expr}(h:uE G ts vs=some o):xH G vs ts o:=by
 cases ts with
 | nil=>exact (bw h).elim
 | cons a ts=>cases ts with
 | nil=>exact (bw h).elim
 | cons b ts=>cases ts with
 | nil=>
  have h:J3 G (j7 a) (j7 b) vs=some o:=h
  cases e1:j7 a with
  | none=>replace h:=e1▸h;have QT:=sI h;clear h;subst QT;exact .no _ _ e1
  | some xp=>cases e2:j7 b with
   | none=>replace h:=e2▸e1▸h;exact (bw h).elim
   | some yq=>
    replace h:=e2▸e1▸h
    obtain ⟨x,p⟩:=xp
    obtain ⟨y,q⟩:=yq
    have h:(match (G.nm.lookup x==some .local&&(G.nm.lookup y==some .local&&(q.line==p.line&&(x !=y&&(!(vs.all (qo 8))&& !(vs.all (oZ 8))))))) with | true=>some (some (x,y)) | false=>(match G.nm.lookup x==some .cell with | true=>some none | false=>none))=some o:=h
    cases hc:(G.nm.lookup x==some .local&&(G.nm.lookup y==some .local&&(q.line==p.line&&(x !=y&&(!(vs.all (qo 8))&& !(vs.all (oZ 8))))))) with
    | false=>
     replace h:=hc▸h
     cases hx:(G.nm.lookup x==some .cell) with
     | false=>replace h:=hx▸h;exact (bw h).elim
     | true=>
      replace h:=hx▸h
      have QW:=sI h;clear h;subst QW
      exact ah (iH e1) (ah (iH e2) (.cel x y p q (cG hx)))
    | true=>
     replace h:=hc▸h
     simp only [dk,beq_iff_eq,bne_iff_ne,ne_eq,b9] at hc
     have QW:=sI h;clear h;subst QW
     exact ah (iH e1) (ah (iH e2) (.two x y p q hc.1 hc.2.1 hc.2.2.1 hc.2.2.2.1 hc.2.2.2.2.1 hc.2.2.2.2.2))
 | cons c ts=>cases ts with
 | nil=>exact (bw h).elim
 | cons d ts=>cases ts with
 | nil=>have QY:=sI h;clear h;subst QY;exact .four _ _ _ _
 | cons e ts=>cases ts with
 | nil=>have Rb:=sI h;clear h;subst Rb;exact .five _ _ _ _ _
 | cons=>exact (bw h).elim
theorem O_{α:Type}{f:Expr->Option α}(h:f a=none):([a,b].filterMap f).length≠2:=by
 refine ah jy (ah h (ah jy ?_))
 cases f b<;>exact λ h=>nomatch h
theorem Of{f:Expr->Option Str}{a b:Expr}{x y:Str}(h1:f a=some x)(h2:f b=some y):[a,b].filterMap f=[x,y]:=ah (kD h1) (ah (kD h2) rfl)
theorem O9{f:Expr->Option Str}{a b c:Expr}{x y z:Str}(h1:f a=some x)(h2:f b=some y)(h3:f c=some z):[a,b,c].filterMap f=[x,y,z]:=ah (kD h1) (ah (Of h2 h3) rfl)
theorem Eh{k:Option dM}{l l' :Nat}(hk:k=some .local)(hp:l' =l):(k==some .local&&l' ==l)=true:=by subst hk;subst hp;exact bg.mpr ⟨rfl,beq_self_eq_true _⟩
theorem wv(h:xH G es ts o)(hl:es.length=ts.length)(hp:es.all g_=true)(g:GF G F):ef [.Tuple ts k p] (.Tuple es j q) F.env=dG (o.map λ xy=>[xy.1,xy.2]):=by
 cases h with
 | four=>rfl
 | five=>rfl
 | no a b h=>
  (try clear hp);refine fg (B7 hl) λ u v Q8=>?_;subst Q8
  unfold ef
  dsimp only [bF,fR]
  refine Fa λ V=>Fa λ V=>if_pos (AQ.mpr (.inl (bne_iff_ne.mpr (O_ ?_))))
  (try clear hl);cases a<;>first | rfl | exact (gY h).elim
 | cel x y p1 p2 h=>
  (try clear hp);refine fg (B7 hl) λ u v Q8=>?_;subst Q8
  have k1:=g.kind _ _ h (by decide)
  unfold ef
  dsimp only [bF,fR]
  refine Fa λ V=>Fa λ V=>if_pos (AQ.mpr (.inl (bne_iff_ne.mpr (O_ ?_))))
  exact if_neg (by rw [k1];exact λ h=>nomatch h)
 | two x y p1 p2 h1 h2 h3 h4 h5 h6=>
  refine fg (B7 hl) λ u v Rc=>?_;subst Rc
  have k1:=g.kind _ _ h1 (by decide)
  have k2:=g.kind _ _ h2 (by decide)
  unfold ef
  dsimp only [bF,fR]
  refine (if_neg ?_).trans ((if_neg ?_).trans ((if_neg ?_).trans ((if_neg ?_).trans ((if_neg ?_).trans ?_))))
  ·refine ah g.blk ?_;decide
  ·intro h
   refine aM (dj.mp h) λ e he q=>?_
   have:=bV.mp hp e he
   cases e with
   | Starred=>exact (jD this).elim
   | _=>exact (jD q).elim
  ·refine ah (Of (x:=x) (y:=y) (if_pos (Eh k1 rfl)) (if_pos (Eh k2 h3))) ?_
   have:([x,y].eraseDups).length=2:=ah List.eraseDups_cons (ah bG (ah (beq_false_of_ne λ e=>h4 e.symm) rfl))
   refine ah this ?_
   exact λ h=>nomatch h
  ·exact ah h5 dK
  ·exact ah h6 dK
  ·exact congrArg (λ l=>(dG (some l):Sem (Option (List Str)))) (Of (x:=x) (y:=y) (if_pos (Eh k1 rfl)) (if_pos (Eh k2 h3)))
theorem Ce.of{vs:List Value}(h:Ce x y m Q vs z):∃vx vy,vs=[vx,vy]/\Q .next (put (put m y vy) x vx) z:=by
 cases vs with
 | nil=>exact cU h
 | cons v vs=>cases vs with
  | nil=>exact cU h
  | cons u vs=>cases vs with
   | nil=>exact iI _ _ rfl h
   | cons=>exact cU h
theorem Bo(S:nC w)(h:GO (w G) G ts es m z Q)(g:GF G F)(k0:z.ok G U):W1 (CX G.X) F G.n (.Assign [.Tuple ts k p] (.Tuple es j q) pos) (cH G.me m) U (uk G Q):=by
 intro O
 refine aU (Gd.of h) λ hc h=>(aU (bg.mp hc) λ hl hp=>?_)
 (try clear hc);refine aU (bg.mp hp) λ Q4 Ur=>?_
 have hl:=cG hl
 refine fS.of h (λ o ht h=>?_) λ V h=>h.elim
 have K:=Nj ht
 have SW:=wv (k:=k) (j:=j) (p:=p) (q:=q) K hl Q4 g
 refine fS.of h (λ xy e h3=>?_) λ e h3=>?_
 ·clear K h ht;subst e
  refine aU (Gd.of h3) λ hs h4=>(aU (bg.mp hs) λ s1 s2=>(yW rfl SW (dS g O s1) (dS g O s2) (oa ((S.l h4 g k0).bd λ vs QM U1 QF q=>(ck q.of λ vx vy Rp q=>?_))) O));subst Rp
  exact ⟨aH rfl,λ a ha=>⟨a,vx,vy,rfl,d0 (AH.get_put_self _ _ _) (by intro _ _ h;cases h),(ah (dA ..) (ah (dA ..) ⟨_,QM,rfl,s8 QF ha,q⟩))⟩⟩
 ·clear h hl hp ht;subst e
  have h5:ts.length<=10000000:=by clear h h3 hl Ur SW;cases K<;>exact aH rfl
  refine Jd rfl SW (IG Ur) (oa ((S.l h3 g k0).bd λ vs QM U1 QF q=>(aU (Gd.of q) λ hv q=>?_))) O
  have hv:=cG hv
  exact ⟨hv▸h5,λ a ha=>⟨a,vs,rfl,d0 (AH.get_put_self _ _ _) (by intro _ _ h;cases h),hv,I6 S g O q (s8 QF ha) hv.symm⟩⟩
theorem Gv{m:Str->Option Value}(hs:∀env x,cP iter env x=dG x)(S:Stores F t)
  (h:WE C F n iter m U λ x U1=>(∃(a:Addr) (ao:aT) (xs:List Value) (J:Nat->(Str->Option Value)->AH->Prop),x=.ref a/\eK ao=some xs/\J 0 m U1/\(∀i m U,J i m U->U.sees a ao)/\
   (∀i v m U,xs[i]? =some v->J i m U->WS C F n body (fe m t v) U (qc Q (J (i+1))))/\(∀m U,J xs.length m U->Q .next m U))\/
   ∃(d:Addr) (kvs:List (Int×Value)),x=.ref d/\U1.get d=some (.dict kvs)/\∀o,∃J:Nat->(Str->Option Value)->AH->Prop,J 0 m (U1.put d (.ro o (.dict kvs)))/\(∀i m U,J i m U->U.get d=some (.ro o (.dict kvs)))/\
   (∀i k m U,(kvs.map (·.1))[i]? =some k->J i m U->WS C F n body (fe m t (vi k)) U λ f m U=>f=.next/\J (i+1) m U)/\(∀m U,J kvs.length m U->Q .next m (U.put d (.dict kvs)))):
  W1 C F n (.For (.Name t tp) iter body [] pos) m U Q:=λ O Z s W R K=>by
 refine wpAny_For (sN (h O Z s _ R λ x s₁ U1 R₁ p=>?_)) (hs _)
 obtain ⟨a,ao,xs,J,e,hi,h0,RI,Rv,Rk⟩ | ⟨d,kvs,e,hd,hh⟩:=p
 ·exact ah (dJ e) (u9 (iter:=iter) (pos:=pos) O S Q J R₁ hi h0 RI Rv Rk λ f s' m' U' R' q=>(K _ _ _ _ R' q))
 ·refine ah (dJ e) (aS (R₁.lock O hd) λ o R₂=>(nW (hh o) λ J h0 RI Rv Rk=>(u9 (iter:=iter) (pos:=pos) (ao:=.ro o (.dict kvs)) (xs:=kvs.map λ p=>vi p.1) O S (λ f m U=>f=.next/\J kvs.length m U) J R₂ rfl h0 (λ i m U h=> .inl (RI i m U h))
   (λ i v m U hx hJ=>?_) (λ m U h=>⟨rfl,by simpa using h⟩) λ f s' m' U' R' Q7=>by refine aU Q7 λ q1 q2=>?_;clear Q7;exact q1▸(K _ _ _ _ (R'.unlock O (RI _ _ _ q2)) (Rk _ _ q2)))))
  replace hx:=ay▸hx
  refine aM (aQ.mp hx) λ p hp Rf=>?_;subst Rf
  exact (Rv i p.1 m U (af ay (ah hp rfl)) hJ).mono λ f m U Rd=>by refine aU Rd λ q1 q2=>?_;clear Rd;exact by subst q1;exact q2
theorem yg{m' :Str->Option Value}(h:∀x v,cH me m x=some v->m' x=some v):∀x u,cH me (put m t v) x=some u->fe m' t v x=some u:=λ x u e=>by
 replace e:=dE (dA ..)▸e
 unfold fe at e⊢
 refine eH (λ e' =>?_) λ e' =>?_
 ·replace e:=if_pos e' ▸e;exact e
 ·replace e:=if_neg e' ▸e;exact h _ _ e
theorem DO.ok(S:nC w)(hq:DO (w G) G t body m Q x z)(g:GF G F)(k:z.ok G U):
  (∃(a:Addr) (ao:aT) (xs:List Value) (J:Nat->(Str->Option Value)->AH->Prop),x=.ref a/\eK ao=some xs/\J 0 (cH G.me m) U/\(∀i m U,J i m U->U.sees a ao)/\
   (∀i v m U,xs[i]? =some v->J i m U->WS (CX G.X) F G.n body (fe m t v) U (qc (Ml (uk G Q)) (J (i+1))))/\(∀m U,J xs.length m U->Ml (uk G Q) .next m U))\/
  ∃(d:Addr) (kvs:List (Int×Value)),x=.ref d/\U.get d=some (.dict kvs)/\∀o,∃J:Nat->(Str->Option Value)->AH->Prop,J 0 (cH G.me m) (U.put d (.ro o (.dict kvs)))/\(∀i m U,J i m U->U.get d=some (.ro o (.dict kvs)))/\
   (∀i k m U,(kvs.map (·.1))[i]? =some k->J i m U->WS (CX G.X) F G.n body (fe m t (vi k)) U λ f m U=>f=.next/\J (i+1) m U)/\(∀m U,J kvs.length m U->Ml (uk G Q) .next m (U.put d (.dict kvs))):=by
 cases hq with
 | mk a ao xs ι mf zf J i0 hx hi h0 hm hz see turn fin=>
  refine .inl ⟨a,ao,xs,λ i m' U' =>∃j,J i j/\(∀x v,cH G.me (mf j) x=some v->m' x=some v)/\(zf j).ok G U',hx,hi,⟨i0,h0,hm.ok,hz _ k⟩,λ i m' U' p=>?_,λ i v m' U' hv p=>?_,λ m' U' p=>?_⟩
  ·refine c9 p λ j hj V hk=>?_;clear p;exact see i j U' hj hk
  ·refine c9 p λ j hj hc hk=>?_;clear p
   refine WS.mem ((S.s (turn i j v hv hj ⟨_,hk⟩) g hk).bd λ f RG Q3 QB QN q=>?_) (yg hc)
   cases f with
   | next=>obtain ⟨j',hj',Ry,UO⟩:=q;exact fW j' hj' Ry.ok (UO _ QN)
   | ret r=>exact ⟨_,λ V V h=>h,RG,Q3,rfl,QN,q⟩
   | _=>exact q.elim
  ·refine c9 p λ j hj hc hk=>?_;clear p
   exact ⟨_,hc,mf j,zf j,rfl,hk,fin j hj ⟨_,hk⟩⟩
 | heats A SS E ι mf J i0 ez hx hl h0 hm turn fin=>
  subst ez
  have T:St G.me A SS U E:=k
  refine .inr ⟨_,_,hx,sr hl T,λ o=>⟨λ i m' U' =>∃j,J i j/\(∀x v,cH G.me (mf j) x=some v->m' x=some v)/\St G.me A (SS.sLock (some o)) U' E,⟨i0,h0,hm.ok,GX T⟩,λ i m' U' p=>?_,λ i u m' U' hu p=>?_,λ m' U' p=>?_⟩⟩
  ·refine c9 p λ j hj V hk=>?_;clear p;exact hk.has .heats rfl
  ·refine c9 p λ j hj hc hk=>?_;clear p
   refine WS.mem ((S.s (z:=.s A (SS.sLock (some o)) E) (turn o i j u (by replace hu:=(vc ..)▸hu;exact hu) hj) g hk).bd λ f RG Q3 QB QN q=>?_) (yg hc)
   cases f with
   | next=>obtain ⟨j',hj',Ry,UO⟩:=q;exact ⟨rfl,j',hj',Ry.ok,UO _ QN⟩
   | _=>exact q.elim
  ·refine c9 p λ j hj hc hk=>?_;clear p
   refine ⟨_,hc,mf j,.s A SS E,rfl,x_ hl hk,fin j ?_⟩
   unfold lr at hj
   replace hj:=(ae ..)▸hj
   exact hj
theorem tT.ok(S:nC w)(h:tT (w G) G t body m z Q)(g:GF G F)(k:z.ok G U):W1 (CX G.X) F G.n (.While t body [] pos) (cH G.me m) U (uk G Q):=by
 obtain ⟨ι,mf,zf,I,μ,i0,h0,hm,hz,turn⟩:=h
 refine W1.mem (m:=cH G.me (mf i0)) (DI (λ n m' U' =>∃j,I j/\μ j=n/\cH G.me (mf j)=m' /\(zf j).ok G U') (μ i0) ⟨i0,h0,rfl,rfl,hz _ k⟩ λ n m' U' p=>(nW p λ j hj Rn Rm hk=>?_)) (hm.ok);clear p;subst Rn;subst Rm
 refine (S.t (turn j hj ⟨_,hk⟩) g hk).bd λ b QM U1 QF q=>Iu q (λ q=>(WS.cov ((S.s q g QF).bd λ f RG Q3 QB QN q=>?_))) λ q=>Dv ⟨mf j,QM,rfl,QF,q⟩
 cases f with
 | next=>obtain ⟨j',⟨hj',hμ⟩,Ry,UO⟩:=q;exact ⟨cH G.me (mf j'),Ry.ok,μ j',hμ,j',hj',rfl,rfl,UO _ QN⟩
 | ret r=>exact ⟨_,λ V V h=>h,RG,Q3,rfl,QN,q⟩
 | _=>exact q.elim
theorem tn(h:pv G (E_ x m Q) v U):uk G Q .next (fe (cH G.me m) x v) U:=by
 obtain ⟨z,k,q⟩:=h
 exact ⟨put m x v,z,(dA _ _ _ _).symm,k,q⟩
theorem uJ(S:nC w)(ho:eZ G x=true)(h:Els (nN e) ((w G).e e m z (E_ x m Q)) (jL G (.Assign [.Name x p] e pos) m z Q))(g:GF G F)(k:z.ok G U):W1 (CX G.X) F G.n (.Assign [.Name x p] e pos) (cH G.me m) U (uk G Q):=λ O=>
 Els.of h (λ hn h=>oU (tb hn _ _ _) (dS g O ho) ((S.e h g k).mono λ v U=>tn) O) λ V h=>h.run F U g k O
theorem zq(S:nC w)(ho:eZ G x=true)(h:Bx w G e m z (E_ x m Q) (jL G (.Assign [.Name x p] e pos) m z Q))(g:GF G F)(k:z.ok G U):W1 (CX G.X) F G.n (.Assign [.Name x p] e pos) (cH G.me m) U (uk G Q):=by
 intro O
 cases e with
 | ListComp QO gens sc p2=>
  refine aU (Gd.of h) λ h0 h=>(rV S h0 h g k O (λ h=>h.run F U g k O) λ t tp it ifs e c h2 hx=>?_)
  clear h h0;subst e
  cases hb:(F.env.blockKind==.function&&F.env.kindOf x==some .local&&p.line==p2.line&& !(sc.names.any λ(n,k)=>n==x&&(k==.local || k==.cell))) with
  | true=>exact Gu (congrArg dG hb) (dS g O ho) c.ok (j6 h2 _) c.nf c.st (hx.mono λ y U1 q=>q.mono λ v U=>tn) O
  | false=>exact oU (congrArg dG hb) (dS g O ho) ((w0 c.ok (j6 h2 _) c.nf c.st hx).mono λ v U=>tn) O
 | _=>exact uJ S ho h g k O
theorem iY{Q:Zs->Prop}(T:St G.me A S U E)(h:Q (.s A S E)):Pz G Q U:=⟨.s A S E,T,h⟩
theorem qx(S' :SS){Q:AH->Prop}(T:St me A S U E)(hS:je (fields A S) attr v=fields A S')(h4:∀u,u≠ .ns->(gB A S' u=none\/gB A S' u=gB A S u))(Z:mM S')(h:∀U',St me A S' U' E->Q U'):NS attr v A S U Q:=h _ (T.ns S' hS h4 Z)
theorem IC{Q:Zs->Prop}(h:fld attr v S (λ S=>Q (.s A S E)) (Mg G attr v A S E Q))(T:St G.me A S U E):NS attr v A S U (Pz G Q):=by
 have h4:∀S' :SS,S'.known=S.known->S'.heights=S.heights->S'.causes=S.causes->S'.row=S.row->S'.begins=S.begins->S'.liked=S.liked->S'.rows=S.rows->S'.watch=S.watch->S'.heats=S.heats->S'.log=S.log->S'.blamed=S.blamed->S'.lock=S.lock->∀u,u≠rG.ns->(gB A S' u=none\/gB A S' u=gB A S u):=λ S' e1 e2 e3 e4 e5 e6 e7 e8 e9 e10 e11 YQ u hu=>by
  right
  cases u<;>first | exact absurd rfl hu | rfl | (unfold gB;simp only [e1,e2,e3,e4,e5,e6,e7,e8,e9,e10,e11,YQ])
 refine Els.of h (λ e h=>?_) λ V h=>Els.of h (λ e h=>?_) λ V h=>Els.of h (λ e h=>?_) λ V h=>Els.of h (λ e h=>?_) λ V h=>Els.of h (λ e h=>?_) λ V h=>h.run U T
 ·(try clear h);have e:=cG e;subst e
  refine aM (si.of h) λ i RA h1=>?_;subst RA
  exact qx (S.sSeen i) T rfl (h4 _ rfl rfl rfl rfl rfl rfl rfl rfl rfl rfl rfl rfl) {T.fit with} λ U' T' =>iY T' h1
 ·(try clear h);have e:=cG e;subst e
  refine aM (nS.of h) λ i RN h1=>?_;subst RN
  exact qx (S.sRefuted i) T rfl (h4 _ rfl rfl rfl rfl rfl rfl rfl rfl rfl rfl rfl rfl) {T.fit with} λ U' T' =>iY T' h1
 ·(try clear h);have e:=cG e;subst e
  refine aM (si.of h) λ i RF h1=>?_;subst RF
  exact qx (S.sClashes i) T rfl (h4 _ rfl rfl rfl rfl rfl rfl rfl rfl rfl rfl rfl rfl) {T.fit with} λ U' T' =>iY T' h1
 ·(try clear h);have e:=cG e;subst e
  refine aM (la.of h) λ i RX h1=>?_;subst RX
  exact qx (S.sGain i) T rfl (h4 _ rfl rfl rfl rfl rfl rfl rfl rfl rfl rfl rfl rfl) {T.fit with} λ U' T' =>iY T' h1
 ·(try clear h);have e:=cG e;subst e
  refine aM (la.of h) λ i RW h1=>?_;subst RW
  exact qx (S.sLimit i) T rfl (h4 _ rfl rfl rfl rfl rfl rfl rfl rfl rfl rfl rfl rfl) {T.fit with} λ U' T' =>iY T' h1
theorem Bw(S:nC w)(h:GQ w G t e m z Q (jL G (.Assign [t] e pos) m z Q))(g:GF G F)(k:z.ok G U):W1 (CX G.X) F G.n (.Assign [t] e pos) (cH G.me m) U (uk G Q):=by
 cases t with
 | Name x p=>
  exact aU (Gd.of h) λ ho h=>(zq S ho h g k)
 | Attribute o attr p=>
  refine Els.of h (λ hc h2=>?_) λ V h=>h.run F U g k
  (try clear h);refine aU (bg.mp hc) λ hm h3=>?_
  clear hc;refine ck (to (G:=G) hm) λ x p' RV hx=>?_;subst RV
  refine Gs (by clear h2;cases e<;>rfl) (OV _ (mP.mp h3)) ((S.e h2 g k).bd (α:=λ V=>True) λ v QM U1 QF q=>(pz (kS.of q) λ A YZ E S9 q=>?_));subst S9
  refine L7 (show St G.me A YZ U1 E from QF) hx ?_
  have:=IC (Q:=kN m Q) q QF
  obtain ⟨Q3,QN,q⟩:=this
  exact ⟨m,Q3,rfl,QN,q⟩
 | Subscript o i p=>
  exact aU (Gd.of h) λ hn h=>(xF (tb hn _ _ _) ((S.e h g k).bd (α:=λ V=>True) λ v QM U1 QF q=>(S.e q g QF).bd (α:=λ V=>True) λ ov Q3 QB QN q=>(S.e q g QN).bd (α:=λ V=>True) λ iv SL QG RB q=>WI.bd (q.run F _ QG RB) λ S7 U4 Si q=>⟨m,S7,rfl,Si,q⟩))
 | Tuple ts j p=>cases e with
  | Tuple es j p=>exact Els.of h (λ _ h=>jL.run h F U g k) λ _ h=>Bo S h g k
  | _=>exact jL.run h F U g k
 | _=>exact cU h
theorem sT(S:nC w)(h:J7 w G b m z Q)(g:GF G F)(k:z.ok G U):W1 (CX G.X) F G.n b (cH G.me m) U (uk G Q):=by
 cases b with
 | Return e p=>
  refine fS.of h (λ e he h=>?_) λ he h=>?_
  ·subst he;exact sH ((S.e h g k).bd (α:=λ V=>True) λ v QM U1 QF q=>λ v' e=>⟨m,QM,rfl,QF,ah (Fz e) q⟩)
  ·subst he;exact xG ⟨m,z,rfl,k,h⟩
 | If t b o p=>exact Mc ((S.t h g k).bd λ c QM U1 QF q=>Iu q (λ q=>S.s q g QF) λ q=>S.s q g QF)
 | Expr e p=>
  exact aU (Gd.of h) λ hn h=>(Gw g.inter (tb hn _ _ _) ((S.e h g k).bd (α:=λ V=>True) λ v QM U1 QF q=>⟨m,QM,rfl,QF,q⟩))
 | Assign ts e p=>cases ts with
  | nil=>exact cU h
  | cons t ts=>cases ts with
   | nil=>exact Bw S h g k
   | cons=>exact cU h
 | For t it body o p=>
  exact fS.of h (λ x e h=>(aU h.of λ hc h=>(aU (bg.mp hc) λ h0 hc=>(aU (bg.mp hc) λ h1 h2=>(ah (iH e) (ah (qs.mp h0) (λ O=>W1.cov (Gv (j6 h2) (dS g O h1) ((S.e h g k).bd (α:=λ V=>True) λ y QM U1 QF q=>DO.ok S q g QF)) O))))))) λ V h=>h.run F U g k
 | While t body o p=>
  exact aU (Gd.of h) λ h0 h=>(ah (qs.mp h0) (tT.ok S h g k))
 | _=>exact jL.run h F U g k
theorem HW(S:nC w)(h:OX w G bs m z Q)(g:GF G F)(k:z.ok G U):WS (CX G.X) F G.n bs (cH G.me m) U (uk G Q):=by
 cases bs with
 | nil=>exact Dv ⟨m,z,rfl,k,h⟩
 | cons b r=>
  refine n_ (W1.mono (sT S h g k) λ f m' U' q=>?_)
  obtain ⟨Q1,QM,rfl,QF,q⟩:=q
  cases f with
  | next=>exact S.s q g QF
  | _=>exact ⟨Q1,QM,rfl,QF,q⟩
end
theorem iQ:∀k,nC (Wk k)
 | 0=>⟨λ h=>h.elim,λ h=>h.elim,λ h=>h.elim,λ h=>h.elim,λ h=>h.elim⟩
 | k+1=>⟨HY (iQ k),HV (iQ k),zp (iQ k),HX (iQ k),HW (iQ k)⟩
end
section
noncomputable def zt:fH->Value
 | .ret v=>v
 | _=> .none
inductive Me(G:Gx)(Q:VQ)(fl:fH)(m:dZ)(z:Zs):Prop where
 | mk (z' :Zs) (s:iG G z z') (q:(JK G z')->Q (zt fl) z')
theorem gA(q:Q (zt fl) z):Me G Q fl m z:=⟨z,λ V h=>h,λ V=>q⟩
section
variable{G:Gx}{A:Ad}{S S' :SS}{E E' :List (Addr×aT)}{p p' :Addr×aT}
theorem cR:iG G z z:=λ V h=>h
theorem wx:iG G (.s A S (p::E)) (.s A S E):=λ V h=>St.subl h (bM _ _)
theorem zj:iG G (.s A S (p::p' ::E)) (.s A S E):=λ V h=>St.subl h ((bM _ _).trans (bM _ _))
theorem zh(e:S=S'):iG G (.s A S E) (.s A S' E):=λ U k=>e▸k
theorem iG.tr(h:iG G z z')(k:iG G z' z''):iG G z z'' :=λ U q=>k U (h U q)
theorem lJ(s:iG G z (.s A S E))(q:mM S->Q (zt fl) (.s A S E)):Me G Q fl m z:=⟨_,s,λ QI=>by obtain ⟨U,k⟩:=QI;exact q (St.fit (show St G.me A S U E from k))⟩
theorem gR(h:E'.Sublist E):iG G (.s A S E) (.s A S E'):=λ V k=>St.subl k h
end
theorem ET:∀{m:Str->Option Value},x∉l.map (·.1)->wO l m x=m x:=by
 induction l with
 | nil=>exact λ V=>rfl
 | cons p r ih=>exact λ h=>(ih λ q=>h (.tail _ q)).trans (if_neg λ e=>h (by exact ah e (.head _)))
theorem nO:∀{m:Str->Option Value},(l.map (·.1)).Nodup->l.lookup x=some v->wO l m x=some v:=by
 induction l with
 | nil=>exact λ V h=>nomatch h
 | cons p r ih=>
  intro m hn h
  refine aU (bp.mp hn) λ h1 h2=>?_
  rewrite [bq] at h
  cases e:x==p.1 with
  | true=>
   (try clear ih);have e:=cG e;subst e
   replace h:=e▸h
   exact (ET h1).trans ((if_pos rfl).trans h)
  | false=>replace h:=e▸h;exact ih h2 h
theorem lF(me:Addr):∀(names:List Str) (mvs:List MV) (x:Str),(names.zip (mvs.map (MV.val me))).lookup x=((names.zip mvs).lookup x).map (MV.val me)
 | [],_,_=>rfl
 | _::_,[],_=>rfl
 | y::ns,w::ws,x=>by
  refine ah bc (ah eO (ah eO (af bq (ah bq ?_))))
  cases x==y with
  | true=>rfl
  | false=>exact lF me ns ws x
theorem lG:∀(names:List Str) (vs:List Value),((names.zip vs).map (·.1)).Sublist names
 | [],_=> .slnil
 | _::_,[]=>List.nil_sublist _
 | y::ns,w::ws=>(lG ns ws).cons_cons y
noncomputable def CK(names:List Str)(scope:Scope):Bool:=decide names.Nodup&&names.all (λ x=>hV x&&(scope.names.lookup x==some .local || scope.names.lookup x==some .cell))&&decide ((dg 0 scope.names []).map (·.1)).Nodup&&scope.names.all (λ x=>x.2 !=.free)&& !scope.isCoroutine&& !scope.isGenerator&&scope.kind==.function
theorem enter{dV kV Sd uk cdv ct oc:Value}{an od:Option Addr}{Um:Array (Option Value)}{Q:VQ}(hn:G.n=n+1)(names:List Str)(mvs:List MV)
  (ho:(CX G.X).K.lookup f=some ⟨oc,od,.func (Qa name qual params body scope dV kV Sd uk an cdv ct),Um⟩) (Rz:OJ (CX G.X).K cdv qual=true)
  (hlen:mvs.length=names.length)
  (Rl:∀vs:List Value,vs.length=names.length->GE (Qa name qual params body scope dV kV Sd uk an cdv ct) ⟨vs,[]⟩=dG (names.zip vs))
  (TJ:CK names scope=true) (hw:(Wk 99 (G.sub n scope.names)).s body (names.zip mvs) z (Me G Q)):j4 G f (mvs.map (MV.val G.me)) z Q:=⟨λ U k=>by
 unfold CK at TJ
 simp only [dk,decide_eq_true_eq,bV,rr,beq_iff_eq,bne_iff_ne,ne_eq,b9] at TJ
 refine aU TJ λ QL c7=>?_;clear TJ;refine aU QL λ QW c6=>?_;clear QL;obtain ⟨⟨⟨⟨c1,c2⟩,c3⟩,c4⟩,c5⟩:=QW
 refine ah hn (DH (names:=names) ho Rz (af (ae ..) hlen) Rl c2 c3 c4 c5 c6 c7 λ b=>?_)
 have g:GF (G.sub n scope.names) (Fn b qual scope f cdv):=⟨λ x k e V=>e,λ x e=>absurd rfl (c4 _ (dW e)),((ah c7 rfl):(if scope.kind.isAnnotationScope=true then _ else scope.kind)=_),((ah c7 rfl):(scope.kind==.module&&_)=false),λ V V q V=>q.elim,λ q=>q.elim⟩
 refine WS.mem (((iQ 99).s hw g k).bd (G:=G.sub n scope.names) λ fl Q1 QM U1 QF q=>?_) λ x v e=>nO ((lG _ _).nodup c1) (af (lF ..) e)
 obtain ⟨Q3,s₂,q⟩:=q
 have q:=q ⟨_,s₂ _ QF⟩
 refine ⟨Q3,s₂ _ QF,?_⟩
 cases fl<;>exact q⟩
section
variable{G:Gx}{A:Ad}{S:SS}{E E' :List (Addr×aT)}{z:Zs}{Q:VQ}
theorem JF(h:-1000<=l/\l<=1000):0<=(l.natAbs:Int)/\(l.natAbs:Int)<=1000:=LF h
theorem lM(k:Zs.ok G (.s A S E) U):mM S:=St.fit (show St G.me A S U E from k)
theorem ja(t:rG)(h:gB A S t=some o)(hr:∀ob v,o≠ .ro ob v):∀U,Zs.ok G (.s A S E) U->U.rd (A t)=some o:=λ U (T:St G.me A S U E)=>T.rd t h hr
theorem wY(h:∀U,z.ok G U->U.rd a=some (.list xs)):IsL G (.ref a) z:=⟨λ U k=>⟨_,_,rfl,h U k⟩⟩
theorem Ff(h:∀U,z.ok G U->U.rd a=some (.dict xs)):Ov G (.ref a) z:=⟨λ U k=>⟨_,_,rfl,h U k⟩⟩
theorem wG(h:(a,o)∈E)(hr:∀ob v,o≠ .ro ob v):∀U,Zs.ok G (.s A S E) U->U.rd a=some o:=λ U (T:St G.me A S U E)=>d0 (T.at_ h) hr
theorem wF:∀U,Zs.ok G (.s A S E) U->U.rd (A .row)=some (.list (S.row.map vi)):=ja .row rfl (by intro _ _ h;cases h)
theorem mo:∀U,Zs.ok G (.s A S E) U->U.rd (A .begins)=some (.list (S.begins.map vn)):=ja .begins rfl (by intro _ _ h;cases h)
theorem lL:∀U,Zs.ok G (.s A S E) U->U.rd (A .known)=some (.dict (lr vb S.known)):=ja .known rfl (by intro _ _ h;cases h)
theorem F0{Q:Zs->Prop}(h0:0<=k/\k<=1000)(q:Q (.s A (S.sKnown (ins S.known k b)) E)):DL G (.ref (A .known)) (vi k) (.bool b) (.s A S E) Q:=⟨λ F m U (T:St G.me A S U E)=>Bc T h0 λ U' T' =>iY T' q⟩
theorem Al{Q:Zs->Prop}(h0:0<=k/\k<=1000)(q:Q (.s A (S.sHeights (ins S.heights k b)) E)):DL G (.ref (A .heights)) (vi k) (vn b) (.s A S E) Q:=⟨λ F m U (T:St G.me A S U E)=>wj T h0 λ U' T' =>iY T' q⟩
theorem Dg{Q:Zs->Prop}(h0:0<=k/\k<=1000)(q:Q (.s A (S.sCauses (ins S.causes k b)) E)):DL G (.ref (A .causes)) (vi k) (vo b) (.s A S E) Q:=⟨λ F m U (T:St G.me A S U E)=>y_ T h0 λ U' T' =>iY T' q⟩
theorem FY{Q:Zs->Prop}(h0:0<=k/\k<=1000)(q:Q (.s A (S.sLiked (ins S.liked k b)) E)):DL G (.ref (A .liked)) (vi k) (.bool b) (.s A S E) Q:=⟨λ F m U (T:St G.me A S U E)=>Bb T h0 λ U' T' =>iY T' q⟩
theorem Dh(hl:-1000<=l/\l<=1000)(hz:S.row.length<100000)(q:Q .none (.s A (S.sRow (S.row++[l])) E)):lA G (.builtin "list.append") [.ref (A .row),vi l] (.s A S E) Q:=⟨λ F m U (T:St G.me A S U E)=>Ga T hl hz λ U' T' =>iY T' q⟩
theorem jq(q:Q (vn S.row.length) (.s A S E)):lA G (.builtin "len") [.ref (A .row)] (.s A S E) Q:=⟨λ F m U (T:St G.me A S U E)=>EX T (iY T q)⟩
theorem gO(q:Q (vn S.begins.length) (.s A S E)):lA G (.builtin "len") [.ref (A .begins)] (.s A S E) Q:=⟨λ F m U (T:St G.me A S U E)=>wT T (iY T q)⟩
theorem sG(q:Q (vn S.rows.length) (.s A S E)):lA G (.builtin "len") [.ref (A .rows)] (.s A S E) Q:=⟨λ F m U (T:St G.me A S U E)=>B5 T (iY T q)⟩
theorem gp(h:∀U,z.ok G U->U.rd a=some (.list xs))(hk:xs.length=k)(hz:k<=1000000)(q:Q (vn k) z):lA G (.builtin "len") [.ref a] z Q:=⟨λ F m U k=>C4 (h U k) (ac (aC hk) (ac hz (aj _ _))) ⟨z,k,ah hk q⟩⟩
theorem vF(h:S.begins[k]? =some b)(q:Q (vn b) (.s A S E)):AA G (.ref (A .begins)) (vn k) (.s A S E) Q:=⟨λ F m U (T:St G.me A S U E)=>w7 T h (iY T q)⟩
theorem qS(h:S.row[k]? =some l)(q:Q (vi l) (.s A S E)):AA G (.ref (A .row)) (vn k) (.s A S E) Q:=⟨λ F m U (T:St G.me A S U E)=>Fv T h (iY T q)⟩
theorem mF(h:k<S.rows.length)(q:Q (.ref (A (.rowL k))) (.s A S E)):AA G (.ref (A .rows)) (vn k) (.s A S E) Q:=⟨λ F m U (T:St G.me A S U E)=>Cn T h (iY T q)⟩
theorem iy(h:S.rows[k]? =some r)(hz:r.length<=1000000)(hj:r[j]? =some l)(q:Q (vi l) (.s A S E)):AA G (.ref (A (.rowL k))) (vn j) (.s A S E) Q:=⟨λ F m U (T:St G.me A S U E)=>Co T h (bQ _) hz (ah (gd ..) hj) (iY T q)⟩
theorem mE{Q:Zs->Prop}(h:S.rows[k]? =some r)(hz:r.length<=1000000)(hj:j<r.length)(q:Q (.s A (S.sRows (S.rows.set k (r.set j l))) E)):DL G (.ref (A (.rowL k))) (vn j) (vi l) (.s A S E) Q:=
 ⟨λ F m U (T:St G.me A S U E)=>BB T h (bQ _) hz (cM.mpr hj) λ R U' e1 V T' =>by replace e1:=(gd ..)▸e1;subst e1;exact iY T' q⟩
theorem gq(h:∀U,z.ok G U->U.rd a=some (.list xs))(hz:xs.length<=1000000)(hj:xs[j]? =some v)(q:Q v z):AA G (.ref a) (vn j) z Q:=⟨λ F m U k=>lQ (h U k) (bQ _) (ac hz (aj _ _)) (ah (gd ..) hj) ⟨z,k,q⟩⟩
theorem iV(h:lk S.heights k=some b)(q:Q (vn b) (.s A S E)):AA G (.ref (A .heights)) (vi k) (.s A S E) Q:=⟨λ F m U (T:St G.me A S U E)=>u8 T h (iY T q)⟩
theorem C8(hr:S.row=r++[l])(q:Q (vi l) (.s A (S.sRow r) E)):lA G (.builtin "list.pop") [.ref (A .row)] (.s A S E) Q:=⟨λ F m U (T:St G.me A S U E)=>EF T hr λ U' T' =>iY T' q⟩
theorem xv(hk:lk S.known k=some b)(q:Q (.bool b) (.s A (S.sKnown (del S.known k)) E)):lA G (.builtin "dict.pop") [.ref (A .known),vi k] (.s A S E) Q:=⟨λ F m U (T:St G.me A S U E)=>zu T hk λ U' T' =>iY T' q⟩
theorem H9(o:Option Bool):(o.map vb).getD .none=wn o:=by cases o<;>rfl
theorem xw(q:Q (wn (lk S.known k)) (.s A S E)):lA G (.builtin "dict.get") [.ref (A .known),vi k] (.s A S E) Q:=
 ⟨λ F m U (T:St G.me A S U E)=>FT (lL (G:=G) U T) (ah (fX ..) (ah (H9 ..) (iY T q)))⟩
theorem sD(h0:-1000<=l/\l<=1000)(q:∀A',(∀u,live S u->A' u=A u)->Q (.ref (A' (.wl l))) (.s A' (S.sWatch (ins S.watch l ((lk S.watch l).getD []))) E)):lA G (.builtin "dict.setdefault") [.ref (A .watching),vi l,.ref D] (.s A S ((D,.list [])::E)) Q:=
 ⟨λ F m U (T:St G.me A S U ((D,.list [])::E))=>BE T h0 λ A' U' W hA hW hWl T' =>by (try clear hWl);subst hW;exact iY T' (q A' λ u hu=>hA u hu)⟩
theorem tQ{k:Nat}(ha:A (.wl l)=a)(hx:x=(k:Int))(hw:lk S.watch l=some w)(hz:w.length<100000)(q:Q .none (.s A (S.sWatch (ins S.watch l (w++[k]))) E)):lA G (.builtin "list.append") [.ref a,vi x] (.s A S E) Q:=⟨λ F m U (T:St G.me A S U E)=>by subst hx ha;exact I7 T hw hz λ U' T' =>iY T' q⟩
theorem F7(ha:A (.wl l)=a)(hw:lk S.watch l=some w)(hb:(b,.list xs)∈E)(hx:xs=u.map vn)(hz:w.length+u.length<=100000)(q:Q .none (.s A (S.sWatch (ins S.watch l (w++u))) E)):lA G (.builtin "list.extend") [.ref a,.ref b] (.s A S E) Q:=⟨λ F m U (T:St G.me A S U E)=>by subst ha;exact ID T hw hb hx hz λ U' T' =>iY T' q⟩
theorem FX(q:∀N,Q (.ref N) (.s A (S.sWatch (del S.watch l)) ((N,.list (((lk S.watch l).getD []).map vn))::E))):lA G (.builtin "dict.pop") [.ref (A .watching),vi l,.ref D] (.s A S ((D,.list [])::E)) Q:=⟨λ F m U (T:St G.me A S U ((D,.list [])::E))=>HM T λ N U' T' =>iY T' (q N)⟩
theorem FV{Q:Zs->Prop}(hx:xs=w.map vn)(hl:lk S.watch l=none)(h0:-1000<=l/\l<=1000)(q:∀A',(∀u,live S u->A' u=A u)->A' (.wl l)=a->Q (.s A' (S.sWatch (ins S.watch l w)) E)):DL G (.ref (A .watching)) (vi l) (.ref a) (.s A S ((a,.list xs)::E)) Q:=
 ⟨λ F m U (T:St G.me A S U ((a,.list xs)::E))=>Ba T hx hl h0 λ A' U' hA hW T' =>iY T' (q A' hA hW)⟩
theorem An(hx:xs=c.map vi)(hz:S.rows.length<100000)(q:∀A',(∀u,u≠ .rowL S.rows.length->A' u=A u)->Q .none (.s A' (S.sRows (S.rows++[c])) E)):lA G (.builtin "list.append") [.ref (A .rows),.ref a] (.s A S ((a,.list xs)::E)) Q:=⟨λ F m U (T:St G.me A S U ((a,.list xs)::E))=>Dj T hx hz λ A' U' hA T' =>iY T' (q A' hA)⟩
theorem qT(hx:xs=c.map vi)(hz:S.log.length<100000)(q:∀A',(∀u,u≠ .logT S.log.length->A' u=A u)->Q .none (.s A' (S.sLog (S.log++[c])) E)):lA G (.builtin "list.append") [.ref (A .log),.ref a] (.s A S ((a,.tup xs)::E)) Q:=⟨λ F m U (T:St G.me A S U ((a,.tup xs)::E))=>Gb T hx hz λ A' U' hA T' =>iY T' (q A' hA)⟩
theorem lK:∀U,Zs.ok G (.s A S E) U->U.rd (A .watching)=some (.dict (S.watch.map λ p=>(p.1,.ref (A (.wl p.1))))):=ja .watching rfl (by intro _ _ h;cases h)
theorem EB:∀U,Zs.ok G (.s A S E) U->U.rd (A .rows)=some (.list (refsOf (λ i=>A (.rowL i)) S.rows.length)):=ja .rows rfl (by intro _ _ h;cases h)
theorem wH:∀U,Zs.ok G (.s A S E) U->U.rd (A .log)=some (.list (refsOf (λ i=>A (.logT i)) S.log.length)):=ja .log rfl (by intro _ _ h;cases h)
theorem EC(h:S.rows[k]? =some r):∀U,Zs.ok G (.s A S E) U->U.rd (A (.rowL k))=some (.list (r.map vi)):=ja (.rowL k) (lN h) (by intro _ _ h;cases h)
theorem aY(h:(a,.list xs)∈E):∀U,Zs.ok G (.s A S E) U->U.rd a=some (.list xs):=wG h (by intro _ _ h;cases h)
theorem gg(h:(a,.tup xs)∈E):∀U,Zs.ok G (.s A S E) U->U.rd a=some (.tup xs):=wG h (by intro _ _ h;cases h)
theorem jc(h:(a,.dict xs)∈E):∀U,Zs.ok G (.s A S E) U->U.rd a=some (.dict xs):=wG h (by intro _ _ h;cases h)
theorem eA(h:(a,o)∈E)(k:Zs.ok G (.s A S E) U):U.sees a o:=.inl ((show St G.me A S U E from k).at_ h)
theorem sV(t:rG)(h:gB A S t=some o)(k:Zs.ok G (.s A S E) U):U.sees (A t) o:=.inl ((show St G.me A S U E from k).has t h)
theorem tN(h:∀U,z.ok G U->U.rd a=some (.list xs))(hz:xs.length<=1000000)(q:∀D,Q (.ref D) (z.new D (.list xs))):lA G (.type "list") [.ref a] z Q:=⟨λ F m U k=>uD (.inl (h U k)) (ac hz (aj _ _)) λ D hD=>⟨_,jd k hD,q D⟩⟩
theorem n7(h:∀U,z.ok G U->U.rd a=some (.list xs))(hz:xs.length<=1000000)(q:∀D,Q (.ref D) (z.new D (.tup xs))):lA G (.type "tuple") [.ref a] z Q:=⟨λ F m U k=>za (h U k) (ac hz (aj _ _)) λ D hD=>⟨_,jd k hD,q D⟩⟩
theorem tP(ht:gt a (.list xs) (.list (xs++[v])) E E')(hz:xs.length<=1000000)(q:Q .none (.s A S E')):lA G (.builtin "list.append") [.ref a,v] (.s A S E) Q:=⟨λ F m U (T:St G.me A S U E)=>ke (T.at_ ht.mem) (ac hz (aj _ _)) (iY (T.turn ht) q)⟩
theorem C6{Q:Zs->Prop}(ht:gt d (.dict kvs) (.dict (cW kvs k v)) E E')(hz:kvs.length<=1000000)(q:Q (.s A S E')):DL G (.ref d) (vi k) v (.s A S E) Q:=⟨λ F m U (T:St G.me A S U E)=>J_ T ht hz λ U' T' =>iY T' q⟩
theorem LW(h:∀U,z.ok G U->U.rd d=some (.dict kvs))(q:Q (.bool (ig kvs k).isSome) z):lj G (a_ .In) (vi k) (.ref d) z Q:=⟨λ F m U ok=>IR (h U ok) ⟨z,ok,q⟩⟩
theorem C9(h:∀U,z.ok G U->U.rd d=some (.dict kvs))(q:Q (.bool (!(ig kvs k).isSome)) z):lj G (a_ .NotIn) (vi k) (.ref d) z Q:=⟨λ F m U ok=>z_ (h U ok) ⟨z,ok,q⟩⟩
theorem eE{c:List Int}{i:Nat}(h:(c.map vi)[i]? =some v):∃l,c[i]? =some l/\v=vi l:=by
 replace h:=ay▸h
 exact aM (aQ.mp h) λ l h1 h2=>(cC l h1 h2.symm)
theorem iC{lo:Int}(h:(fi lo k)[i]? =some v):i<k/\v=vi (lo+i):=by
 replace h:=(lI ..)▸h
 split at h
 ·have QT:=sI h;clear h;subst QT;exact ⟨‹_›,rfl⟩
 ·exact (bw h).elim
theorem tq(ha:A (.wl l)=a)(hw:lk S.watch l=some w):IsL G (.ref a) (.s A S E):=ha▸wY λ U (T:St G.me A S U E)=>d0 (T.wl_at hw) (by intro _ _ h;cases h)
theorem cT{A B:Prop}(h:A):t8 true A B:=⟨λ V=>h,λ h=>nomatch h⟩
theorem cF{A B:Prop}(h:B):t8 false A B:=⟨λ h=>(nomatch h),λ V=>h⟩
theorem cD[Decidable p]{A B:Prop}(h1:p->A)(h2:¬p->B):t8 (decide p) A B:=⟨λ h=>h1 (of_decide_eq_true h),λ h=>h2 (of_decide_eq_false h)⟩
theorem oO(q:Q (.bool o.isNone) z):lj G (a_ .Is) (wn o) .none z Q:=⟨λ F m U k=>Ab ⟨z,k,q⟩⟩
theorem Km(q:Q (.bool o.isNone) z):lj G (a_ .Is) (vo o) .none z Q:=⟨λ F m U k=>CM ⟨z,k,q⟩⟩
theorem It(q:Q (.bool false) z):lj G (a_ .Is) (.ref a) .none z Q:=⟨λ F m U k=>FF ⟨z,k,q⟩⟩
theorem is_none(q:Q (.bool true) z):lj G (a_ .Is) .none .none z Q:=⟨λ F m U k=>tE ⟨z,k,q⟩⟩
theorem is_bool(q:Q (.bool false) z):lj G (a_ .Is) (.bool b) .none z Q:=⟨λ F m U k=>yI ⟨z,k,q⟩⟩
theorem tz(q:Q (.bool (o==some b)) z):lj G (a_ .Eq) (wn o) (.bool b) z Q:=⟨λ F m U k=>Ac ⟨z,k,q⟩⟩
theorem BV(q:Q (.bool (!(o==some b))) z):lj G (a_ .NotEq) (wn o) (.bool b) z Q:=⟨λ F m U k=>Aa ⟨z,k,q⟩⟩
theorem eq_bool(q:Q (.bool (i==j)) z):lj G (a_ .Eq) (.bool i) (.bool j) z Q:=⟨λ F m U k=>yJ ⟨z,k,q⟩⟩
theorem kh(hk:k<=1000000)(q:∀D,Q (.ref D) (z.new D (.rng 0 k))):lA G (.type "range") [vn k] z Q:=⟨λ F m U ok=>zc (ac hk (aj _ _)) λ D hD=>⟨_,jd ok hD,q D⟩⟩
theorem n8(ha:-1000000<=a/\a<=1000000)(hb:-1000000<=b/\b<=1000000)(q:∀D,Q (.ref D) (z.new D (.rng a (b-a).toNat))):lA G (.type "range") [vi a,vi b] z Q:=⟨λ F m U ok=>zb (cS (by decide) ha.1) (cS ha.2 (by decide)) (cS (by decide) hb.1) (cS hb.2 (by decide)) λ D hD=>⟨_,jd ok hD,q D⟩⟩
theorem tL(hc:c≠some 0)(h:∀U,z.ok G U->U.rd a=some (.list xs))(hz:xs.length<=10000000)(q:∀D,Q (.ref D) (z.new D (.list (jS xs l u c)))):Os G a l u c z Q:=
 ⟨λ U k=>⟨hc,xs,h U k,hz,z.hp G,z.E,dI GT k,λ D U' k' =>⟨z.new D _,by clear h k q;cases z<;>exact k',q D⟩⟩⟩
theorem Dq{Q:Zs->Prop}(hx:xs=bs.map vn)(hz:bs.length<=100000)(q:∀A',(∀u,u≠ .begins->A' u=A u)->Q (.s A' (S.sBegins bs) E)):Mg G "begins" (.ref a) A S ((a,.list xs)::E) Q:=
 ⟨λ U T=>zy T hx hz λ A' U' hA T' =>iY T' (q A' hA)⟩
end
end
section
section
variable{G:Gx}{A A' :Ad}{S S' :SS}{E E' :List (Addr×aT)}{n:Nat}{z:Zs}{Q:VQ}
theorem jV(hn:G.n=n+1)(q:Q (wn (says S l)) (.s A S E)):j4 G 83 [.ref G.me,vi l] (.s A S E) Q:=by
 refine enter hn ["self","literal"] [.me,.v (vi l)] rfl rfl rfl (λ vs h=>by refine fg (j9 h) λ V V QI=>?_;subst QI;rfl) rfl ?_
 refine bk (Ff lL) (xw (oO ?_))
 unfold says at q
 cases e:lk S.known l.natAbs with
 | none=>replace q:=e▸q;exact cT (gA q)
 | some c=>replace q:=e▸q;exact cF (eq_bool (gA q))
theorem qK(hn:G.n=n+1)(hl:-1000<=l/\l<=1000)(hz:S.row.length<100000)(q:Q .none (.s A (j8 S l c) E)):j4 G 90 [.ref G.me,vi l,vo c] (.s A S E) Q:=by
 refine enter hn ["self","literal","cause"] [.me,.v (vi l),.v (vo c)] rfl rfl rfl (λ vs h=>by refine lh (B6 h) λ V V V QL=>?_;subst QL;rfl) rfl ?_
 exact F0 (JF hl) (gO (Al (JF hl) (Dg (JF hl) (bk (wY wF) (Dh hl hz (gA q))))))
theorem mC(hn:G.n=n+1)(R:Tr S)(q:∀A',(∀u,u≠ .begins->A' u=A u)->Q .none (.s A' (bT S k) E)):j4 G 97 [.ref G.me,vn k] (.s A S E) Q:=by
 refine enter hn ["self","height"] [.me,.v (vn k)] rfl rfl rfl (λ vs h=>by refine fg (j9 h) λ V V QT=>?_;subst QT;rfl) rfl ?_
 refine gO (cD (λ hk=>?_) λ hk=>?_)
 ·obtain ⟨b,hb⟩:∃b,S.begins[k]? =some b:=⟨_,aA (cM.mp hk)⟩
  refine .mk Nat (λ V=>[("self",.me),("height",.v (vn k))]) (λ i=> .s A (gS i S) E) (λ i=>i<=S.row.length-b) (λ i=>S.row.length-i) 0 (bb _) rfl cR λ i hi Q4=>?_
  obtain ⟨U,ok⟩:=Q4
  have R₁:=sZ i R
  have hr:=nL i S
  have hbe:(gS i S).begins=S.begins:=lh (gJ i S) λ V V V e=>(ah e rfl)
  have hlen:(gS i S).row.length=S.row.length-i:=ah hr (af ce (af (dz (l9 ..)) rfl))
  refine jq (vF (b:=b) (ah hbe hb) (cD (λ hlt=>?_) λ hlt=>?_))
  ·have hlt:b<(gS i S).row.length:=cM.mp hlt
   obtain ⟨r,l,hrl⟩:∃r l,(gS i S).row=r++[l]:=⟨_,_,(rp (by intro e;replace hlt:=e▸hlt;simp at hlt)).symm⟩
   have hkn:=R₁.at_ (l:=l) (by refine ah hrl ?_;simp)
   refine bk (wY wF) (C8 hrl (bk (Ff lL) (xv hkn (FY (JF ((lM ok).lit l (by refine ah hrl ?_;simp))) ?_))))
   replace hlt:=hlen▸hlt
   clear hlen hr
   exact ⟨i+1,⟨AJ (mW hlt),show S.row.length-(i+1)<S.row.length-i by exact sf hlt⟩,rfl,zh (EH hrl hkn).symm⟩
  ·have hi' :i=S.row.length-b:=by have:¬b<(gS i S).row.length:=λ h=>hlt (cM.mpr h);replace this:=hlen▸this;exact LD hlen hi hlt
   have WR:=(lM ok).z8
   refine tL (λ h=>(bw h).elim) mo (ah (ae ..) (ac WR (aj _ _))) λ D=>Dq (af (iZ ..) (ah kA rfl)) (ac (il _ _).length_le (WR)) λ A' hA=>jq (gA ?_)
   have:bT S k={gS i S with begins:=S.begins.take k,seen:=(gS i S).row.length}:=by unfold bT;exact ah hb (ah hi' rfl)
   have q:=q A' hA
   replace q:=dE hbe▸this▸q
   exact q
 ·have hb:S.begins[k]? =none:=bt (dC λ h=>hk (cM.mpr h))
  have q:=q A λ V V=>rfl
  replace q:=jp hb▸q
  exact gA q
theorem CT(hn:G.n=n+1)(ha:(a,.list (c.map vi))∈E)(hc:∀l∈c,-1000<=l/\l<=1000)(hcz:c.length<=100000)(hz:S.rows.length<100000)(hw:Wz S 90000)
  (q:∀A',(∀u,live S u->A' u=A u)->Q (vn S.rows.length) (.s A' (gl S c) E)):j4 G 137 [.ref G.me,.ref a] (.s A S E) Q:=by
 refine enter hn ["self","literals"] [.me,.v (.ref a)] rfl rfl rfl (λ vs h=>by refine fg (j9 h) λ V V QW=>?_;subst QW;rfl) rfl ?_
 refine bk (wY EB) (tN (aY ha) (ah (ae ..) (ac hcz (aj _ _))) λ D=>An rfl hz λ A1 RT=>?_)
 refine tL (λ h=>(bw h).elim) (aY ha) (ah (ae ..) (ac hcz (aj _ _))) λ L=>?_
 let S₁:SS:=S.sRows (S.rows++[c])
 let f:SS->Int->SS:=λ S l=>fz S l (S.rows.length-1)
 have e2:jS (c.map vi) none (some 2) none=(c.take 2).map vi:=(iZ _ 2).trans kA.symm
 refine .mk L (.list ((c.take 2).map vi)) _ (Ad×SS) (λ V=>[("self",.me)]) (λ p=> .s p.1 p.2 ((L,.list ((c.take 2).map vi))::E))
  (λ i p=>p.2=((c.take 2).take i).foldl f S₁/\Wz p.2 (90000+i)/\p.2.rows=S.rows++[c]/\(∀u,live S u->live p.2 u)/\∀u,live S u->p.1 u=A u) (A1,S₁) rfl rfl ⟨rfl,hw,rfl,λ u hu=>?_,λ u hu=>RT u λ e=>by subst e;exact absurd hu (bP _)⟩ rfl (dI e2 cR) (λ i p U V k=>eA (.head _) k) ?_ ?_
 ·cases u with
  | rowL i=>exact ((ah av (Nat.lt_add_right _ hu)):i<(S.rows++[c]).length)
  | _=>exact hu
 ·rintro i ⟨TK,QU⟩ v hv ⟨hS,hz₃,hrw,hlv,UT⟩-
  refine aM (eE hv) λ l hl QY=>?_;subst QY
  have hlc:=hc l (bU _ _ (am hl))
  have hi2:i<2:=by have:=(ag.mp hl).1;replace this:=ce▸this;exact aq this (jw _ _)
  have hf:((c.take 2).take (i+1)).foldl f S₁=fz QU l (QU.rows.length-1):=ah ba (ah hl (ah (show QU=_ from hS) (af gc rfl)))
  have hzl:=hz₃ l
  have hlen:(QU.rows.length:Int)-1=((QU.rows.length-1:Nat):Int):=ah (show QU.rows=_ from hrw) (ah av (ah aG (pc (aj _ _))))
  refine bk (Ff lK) (bk (bb _) λ N=>sD hlc λ A4 Tm=>?_)
  have hWl:lk (ins QU.watch l ((lk QU.watch l).getD [])) l=some ((lk QU.watch l).getD []):=af (eB ..) (af (if_pos rfl) rfl)
  refine bk (tq rfl hWl) (sG (tQ rfl hlen hWl (by refine (?_:((lk QU.watch l).getD []).length<_);dsimp only at hzl;exact LB hi2 hzl) ⟨(A4,fz QU l (QU.rows.length-1)),⟨hf.symm,hz₃.add l _,hrw,λ u hu=>?_,λ u hu=>(Tm u (hlv u hu)).trans (UT u hu)⟩,rfl,zh (congrArg QU.sWatch (tu QU.watch l _ _):)⟩))
  ·cases u with
   | wl j=>
    refine ((ah (eB ..) (eH (λ V=>?_) λ V=>?_)):(lk (ins QU.watch l _) j).isSome)
    ·rfl
    ·exact hlv (.wl j) hu
   | _=>exact hlv _ hu
 ·rintro ⟨TK,QU⟩ ⟨hS,hz₃,hrw,hlv,UT⟩-
  refine sG (lJ wx λ V=>?_)
  have:gl S c=QU:=ah (show QU=_ from hS) (ah (ae ..) (ah aX rfl))
  have q:=q TK UT
  replace q:=this▸q
  have e:zt (.ret (vi ((QU.rows.length:Int)-1)))=vn S.rows.length:=by refine (?_:vi _=_);exact ah (show QU.rows=_ from hrw) (ah av (ah aG (ah (show ((S.rows.length+1:Nat):Int)-1=(S.rows.length:Int) by exact LA) rfl)))
  exact e▸q
end
end
section
section
variable{G:Gx}{A A' :Ad}{S S' :SS}{E E' :List (Addr×aT)}{n:Nat}{z:Zs}{Q:VQ}
theorem wM(h:r[k]? =some w):k_ S r k (q+1)=if says S w≠some false then some k else k_ S r (k+1) q:=((ah (jj h) rfl):(if says S (r.getD k 0)≠some false then _ else _)=_)
theorem qE{P:Int->Prop}(h2:2<=r.length)(h:∀l∈r,P l)(h0:r.getD 0 0=lost->P lost):∀l∈cJ r lost,P l:=λ l hl=>by
 unfold cJ at hl
 split at hl
 ·rename_i e
  rcases uf hl with q | q
  ·rcases uf q with q | q
   ·exact h _ q
   ·exact ah q (h _ (am (ji r 1 h2)))
  ·exact ah q (h0 e)
 ·exact h l hl
theorem zC(hr:S.rows[i]? =some r)(hr' :cJ r lost=r'):dB S i lost=if says S (r'.getD 0 0)=some true then (S.sRows (S.rows.set i r'),false)
   else match k_ S r' 2 (r'.length-2) with
    | none=>(S.sRows (S.rows.set i r'),false)
    | some k=>(fz (S.sRows (S.rows.set i ((r'.set 1 (r'.getD k 0)).set k lost))) (r'.getD k 0) i,true):=by
 subst hr'
 unfold dB
 exact ah (jj hr) rfl
structure Mh(R:Prop):Prop where
 h:R
theorem PM[Decidable p]{A B R:Prop}(t:Mh R->p->A)(f:Mh R->¬p->B)(k:R):t8 (decide p) A B:=cD (t ⟨k⟩) (f ⟨k⟩)
theorem Ka{Q:SQ}(h:Q .next m z):E7 (Wk (k+1) G) [] Q .next m z:=h
theorem sE{Q:SQ}(e:S=S')(h:w.s r m (.s A S' E) Q):E7 w r Q .next m (.s A S E):=e▸h
theorem vz(hn:G.n=n+2)(hr:S.rows[i]? =some r)(h2:2<=r.length)(hz:r.length<=100000)(hr1:∀l∈r,-1000<=l/\l<=1000)(hw:Wz S 99000)
  (q:∀A',(∀u,live S u->A' u=A u)->Q (.bool (dB S i lost).2) (.s A' (dB S i lost).1 E)):j4 G 151 [.ref G.me,vn i,vi lost] (.s A S E) Q:=by
 refine enter hn ["self","number","lost"] [.me,.v (vn i),.v (vi lost)] rfl rfl rfl (λ vs h=>by refine lh (B6 h) λ V V V QI=>?_;subst QI;rfl) rfl ?_
 have hi:=(ag.mp hr).1
 obtain ⟨r',hF⟩:∃r',cJ r lost=r' :=⟨_,rfl⟩
 have hl' :r'.length=r.length:=dI hF (nh _ _)
 have hr1' :∀l∈r',-1000<=l/\l<=1000:=dI hF (qE h2 hr1 λ e=>dI e (hr1 _ (am (ji r 0 (aq (eJ _) h2)))))
 have Su:=zC hr hF
 have h0:=ji r 0 (aq (by decide) h2)
 have h1:=ji r 1 h2
 have hz6:r.length<=1000000:=ac hz (by decide)
 refine mF hi (iy (j:=0) hr hz6 h0 ?_)
 apply PM
 case t=>
  intro K hx
  refine iy (j:=1) hr hz6 h1 (mE (j:=0) hr hz6 (aq (eJ _) h2) ?_)
  have hs:(S.rows.set i (r.set 0 (r.getD 1 0)))[i]? =some (r.set 0 (r.getD 1 0)):=dc hi
  refine mE (j:=1) hs (ah bZ hz6) (ah bZ h2) ?_
  refine Ka (sE (S' :=S.sRows (S.rows.set i r')) (((ah (v_ ..) (dI hF ?_)):S.sRows ((S.rows.set i _).set i _)=_)) K.h)
  unfold cJ
  exact ah (if_pos hx) rfl
 case f=>
  intro K hx
  refine Ka (sE (S' :=S.sRows (S.rows.set i r')) (ah (show r' =r by refine Bi hF ?_;unfold cJ;exact af (if_neg hx) rfl) (ah (BA _ _ _ hr) ?_)) K.h);rfl
 case k=>
  have hri:(S.rows.set i r')[i]? =some r' :=dc hi
  have h0' :=ji r' 0 (aq (aq (eJ _) h2) (xb hl' (az _)))
  have hz6' :r'.length<=1000000:=hl' ▸hz6
  generalize r'.getD 0 0=z0 at h0' Su
  refine iy (j:=0) hri hz6' h0' (jV rfl (tz ⟨λ hc=>?_,λ hc=>?_⟩))
  ·replace Su:=(if_pos (show says S z0=some true from cG hc))▸Su
   replace q:=Su▸q
   exact gA (q A λ V V=>rfl)
  ·replace Su:=(if_neg (show¬says S z0=some true from beq_eq_false_iff_ne.mp hc))▸Su
   refine gp (EC hri) (ae ..) hz6' (n8 (by decide) (bk (cS (by decide) (bQ _)) (bY.mpr hz6')) λ D=>(ah (show ((r'.length:Int)-2).toNat=r'.length-2 from vY _ 2) ?_))
   have hlv:∀u,live S u->live (S.sRows (S.rows.set i r')) u:=λ u hu=>by
    cases u with
    | rowL j=>exact ((ah bZ hu):j<(S.rows.set i r').length)
    | _=>exact hu
   refine .mk D (.rng 2 (r'.length-2)) _ Nat (λ V=>[("self",.me),("number",.v (vn i)),("lost",.v (vi lost)),("some",.v (.ref (A (.rowL i))))]) (λ V=> .s A (S.sRows (S.rows.set i r')) ((D,.rng 2 (r'.length-2))::E))
    (λ j j' =>j=j' /\j<=r'.length-2/\k_ S r' 2 (r'.length-2)=k_ S r' (2+j) (r'.length-2-j)) 0 rfl rfl ⟨rfl,bb _,rfl⟩ rfl cR (λ j p U V k=>eA (.head _) k) ?_ ?_
   ·rintro j _ v hv ⟨rfl,hj,hk⟩-
    refine aU (iC hv) λ hjl QL=>?_;subst QL
    refine ah (show (2:Int)+(j:Int)=((2+j:Nat):Int) by rfl) ?_
    obtain ⟨w,hw1⟩:∃w,r'[2+j]? =some w:=⟨_,aA (mW hjl)⟩
    have TP:=wM (S:=S) (q:=r'.length-2-j-1) hw1
    replace TP:=dE hk▸(show r'.length-2-j-1+1=r'.length-2-j by exact ic (pW hjl))▸TP
    refine iy hri hz6' hw1 (jV rfl (BV ⟨λ hs=>?_,λ hs=>?_⟩))
    ·replace TP:=(if_pos (show says S w≠some false from beq_eq_false_iff_ne.mp ((b9 _).mp hs)))▸TP
     replace Su:=TP▸Su
     dsimp only at Su
     replace Su:=jj hw1▸Su
     refine iy hri hz6' hw1 (mE (j:=1) hri hz6' (aq (aq (bn _) (az _)) (xc hl' h2)) ?_)
     have hs2:((S.rows.set i r').set i (r'.set 1 w))[i]? =some (r'.set 1 w):=dc (ah bZ hi)
     refine mE hs2 (ah bZ hz6') (by refine ah bZ ?_;exact mW hjl) ?_
     have hs3:(((S.rows.set i r').set i (r'.set 1 w)).set i ((r'.set 1 w).set (2+j) lost))[i]? =some ((r'.set 1 w).set (2+j) lost):=dc (ah bZ (ah bZ hi))
     refine bk (Ff lK) (iy (j:=1) hs3 (ah bZ (ah bZ hz6')) (af (m7 (dq (aq (bn _) (aB _ _)))) (dc (aq (aq (bn _) (az _)) (xc hl' h2)))) ?_)
     refine bk (bb _) λ N=>(sD (hr1' w (am hw1)) λ TK UT=>?_)
     have hWl:lk (ins S.watch w ((lk S.watch w).getD [])) w=some ((lk S.watch w).getD []):=af (eB ..) (af (if_pos rfl) rfl)
     refine bk (tq rfl hWl) (tQ rfl rfl hWl (by have:=hw w;exact au this (by decide)) ?_)
     replace q:=Su▸q
     refine lJ (wx.tr (zh ?_)) λ V=>q TK λ u hu=>UT u ?_
     ·exact ((ah (tu ..) (ah (v_ ..) (ah (v_ ..) rfl))):(S.sRows (((S.rows.set i r').set i _).set i _)).sWatch (ins (ins S.watch w _) w _)=fz (S.sRows (S.rows.set i _)) w i)
     ·cases u with
      | rowL q=>exact ((ah bZ (ah bZ (ah bZ hu))):q<(((S.rows.set i r').set i (r'.set 1 w)).set i _).length)
      | _=>exact hu
    ·replace TP:=(if_neg (show¬says S w≠some false from λ e=>e (cG ((oA _).mp hs))))▸TP
     exact ⟨j+1,⟨rfl,bK hjl,af TP (ah (show 2+j+1=2+(j+1) by exact iS _ _ _) (ah (show r'.length-2-j-1=r'.length-2-(j+1) by exact Nat.sub_sub _ _ _) rfl))⟩,rfl,cR⟩
   ·rintro _ ⟨rfl,hj,hk⟩-
    replace Su:=(gC ..)▸(dt ..)▸hk▸Su
    replace q:=(show dB S i lost=(S.sRows (S.rows.set i r'),false) from Su)▸q
    exact lJ wx λ V=>q A λ V V=>rfl
end
end
section
section
variable{G:Gx}{A A' :Ad}{S S' :SS}{E E' :List (Addr×aT)}{n:Nat}{z:Zs}{Q:VQ}
structure nt(A:Ad)(S:SS)(A' :Ad)(S' :SS):Prop where
 le:S.log.length<=S'.log.length
 at_:∀i,i<S.log.length->A' (.logT i)=A (.logT i)
theorem nt.refl:nt A S A S:=⟨az _,λ V V=>rfl⟩
theorem nt.tr{A'' :Ad}{UK :SS}(h:nt A S A' S')(k:nt A' S' A'' UK):nt A S A'' UK :=⟨ac h.le k.le,λ i hi=>(k.at_ i (aq hi h.le)).trans (h.at_ i hi)⟩
theorem nt.st(h:∀u,live S u->A' u=A u)(e:S'.log=S.log):nt A S A' S' :=⟨aC (congrArg fh e.symm),λ i hi=>h (.logT i) hi⟩
theorem nt.same(e:S'.log=S.log):nt A S A S' :=⟨aC (congrArg fh e.symm),λ V V=>rfl⟩
theorem wN(S:SS)(i:Nat)(lost:Int):(dB S i lost).1.log=S.log:=by
 unfold dB
 dsimp only
 refine eH (λ V=>?_) λ V=>?_
 ·rfl
 ·split at⊢<;>rfl
theorem CR{A0:Ad}{RC:SS}{J:SS->Prop}{M:SS->Int->List Nat->Nat->Prop}{P:SS->Nat->Prop}(hn:G.n=n+3)(K:q8 J M P)(J0:J RC)
  (q1:∀A' S',J S' ->nt A0 RC A' S' ->S'.row.length<=S'.seen->mM S' ->Q (vi (-1)) (.s A' S' E)) (q2:∀A' S' i,P S' i->nt A0 RC A' S' ->mM S' ->Q (vn i) (.s A' S' E)):j4 G 144 [.ref G.me] (.s A0 RC E) Q:=by
 refine enter hn ["self"] [.me] rfl rfl rfl (λ vs h=>by refine aS (u2 h) λ V QI=>?_;subst QI;rfl) rfl ?_
 refine .mk (Ad×SS) (λ V=>[("self",.me)]) (λ p=> .s p.1 p.2 E) (λ p=>J p.2/\nt A0 RC p.1 p.2) (λ p=>100001-p.2.seen) (A0,RC) ⟨J0,.refl⟩ rfl cR ?_
 intro QL QT V_;obtain ⟨A,S⟩:=QL;obtain ⟨J0,L0⟩:=QT;obtain ⟨U,ok⟩:=V_
 have F:=lM ok
 dsimp only at J0 F L0
 refine jq (cD (λ hlt=>?_) λ hlt=>?_)
 ·have hlt:S.seen<S.row.length:=cM.mp hlt
  obtain ⟨l,hl⟩:∃l,S.row[S.seen]? =some l:=⟨_,aA hlt⟩
  refine aU (K.enter S l J0 F hl) λ hn1 hM=>?_
  have SY:=F.lit l (am hl)
  have hlo:-1000<=-l/\-l<=1000:=Pv SY
  have Zi:=F.z7
  refine qS hl (bk (Ff lK) (bk (bb _) λ D0=>(FX λ N=>(bk (bb _) λ D1=>(FV (w:=[]) rfl (((af (nc ..) (af (if_pos rfl) rfl)):lk (del S.watch (-l)) (-l)=none)) hlo λ A1 RT Yt=>?_)))))
  generalize hns:(lk S.watch (-l)).getD []=ns at hn1 hM
  have hns' :(lk (S.sSeen (S.seen+1)).watch (-l)).getD []=ns:=hns
  refine ah hns' (gp (aY (.head _)) (ae ..) (ac hn1 (aj _ _)) (kh (ac hn1 (aj _ _)) λ R=>(.mk R (.rng 0 ns.length) _ (Ad×SS) (λ V=>[("self",.me),("lost",.v (vi (-l))),("stay",.v (.ref D1)),("numbers",.v (.ref N))]) (λ p=> .s p.1 p.2 ((R,.rng 0 ns.length)::(N,.list (ns.map vn))::E))
   (λ k p=>M p.2 (-l) ns k/\p.2.seen=S.seen+1/\(lk p.2.watch (-l)).isSome/\p.1 (.wl (-l))=D1/\nt A0 RC p.1 p.2) (A1,uQ S l) rfl rfl ⟨hM,rfl,((ah (eB ..) (ah (if_pos rfl) rfl)):(lk (ins _ _ _) _).isSome),Yt,L0.tr ⟨az _,λ i hi=>RT (.logT i) hi⟩⟩ rfl cR (λ k p U V q=>eA (.head _) q) ?_ ?_)))
  ·intro k QW v hv QY Rb;obtain ⟨A,Ri⟩:=QW;refine sx QY λ hM hse Vm hW hL=>?_;clear QY;obtain ⟨U',Vj⟩:=Rb
   dsimp only at hM hse Vm hW hL
   have Va:=lM Vj
   dsimp only at Va
   refine aU (iC hv) λ hkl Q8=>?_;subst Q8
   refine ah (Int.zero_add ..) ?_
   obtain ⟨i,hi⟩:∃i,ns[k]? =some i:=⟨_,aA hkl⟩
   refine IK (K.turn Ri _ ns k i hM Va hi) λ r hr Ub Tq WY hw hnz hrow Rc Rp hw' K1 K2=>?_;clear Rc;clear Rp
   have hki:(ns.map vn)[k]? =some (vn i):=af ay (ah hi rfl)
   have hnl:(ns.map vn).length<=1000000:=ah (ae ..) (ac hnz (aj _ _))
   refine gq (aY (.tail _ (.head _))) hnl hki (vz rfl hr Ub Tq WY (λ l=>ac (hw l) (by decide)) λ RD SG=>?_)
   have hs' :=zB Ri i (-l) (-l) Vm
   have UZ :=uW Ri i (-l)
   have Vo:=tc (S:=Ri) (i:=i) (lost:=-l)
   replace Vo:=jj hr▸Vo
   have hW' :RD (.wl (-l))=D1:=(SG (.wl (-l)) Vm).trans hW
   have hL' :nt A0 RC RD (dB Ri i (-l)).1:=hL.tr (.st SG (wN ..))
   generalize dB Ri i (-l)=p at*
   obtain ⟨QU,b⟩:=p
   dsimp only at*
   cases b with
   | true=>exact cF ⟨(RD,QU),⟨K1 rfl,UZ.trans hse,hs',hW',hL'⟩,rfl,cR⟩
   | false=>
    refine cu (K2 rfl) λ K3 K4 K5=>?_
    have hS:=Vo rfl
    refine aS (bW.mp hs') λ w T_=>?_
    have hwz:w.length<=40001:=by have:=hw' (-l);replace this:=T_▸this;exact this
    have hr3:QU.rows[i]? =some (cJ r (-l)):=ah hS (dc (ag.mp hr).1)
    have SO:=nh r (-l)
    have hf0:(cJ r (-l))[0]? =some ((cJ r (-l)).getD 0 0):=ji _ _ (aq (aq (eJ _) Ub) (xb SO (az _)))
    have hfr:=qE (P:=λ l=>-1000<=l/\l<=1000) Ub WY (λ V=>hlo) _ (am hf0)
    have hadd:fz QU (-l) i=QU.sWatch (ins QU.watch (-l) (w++[i])):=by unfold fz;exact ah T_ rfl
    have hlk:lk (fz QU (-l) i).watch (-l)=some (w++[i]):=ah hadd ((eB ..).trans (if_pos rfl))
    have hsy:∀x,says (fz QU (-l) i) x=says Ri x:=λ x=>ah hS rfl
    have hrow3:(fz QU (-l) i).row.length<100000:=ah hS (bD hrow (by decide))
    have hr4:(fz QU (-l) i).rows[i]? =some (cJ r (-l)):=hr3
    have hse4:(fz QU (-l) i).seen=S.seen+1:=UZ.trans hse
    have hL4:nt A0 RC RD (fz QU (-l) i):=hL'.tr (.same rfl)
    generalize cJ r (-l)=r' at*
    generalize r'.getD 0 0=f at*
    refine cT (bk (tq hW' T_) (gq (aY (.tail _ (.head _))) hnl hki (tQ hW' rfl T_ (au hwz (by decide)) (dI hadd ?_))))
    clear hadd hS Vo T_ hs' hr3
    generalize fz QU (-l) i=S4 at*
    refine gq (aY (.tail _ (.head _))) hnl hki (mF (ag.mp hr4).1 (iy (j:=0) hr4 (ac (aC SO) (ac Tq (aj _ _))) hf0 (jV rfl (tz (ah (hsy ..) ⟨λ hc=>?_,λ hc=>?_⟩)))))
    ·refine bk (tq hW' hlk) (tL (λ h=>(bw h).elim) (aY (.tail _ (.head _))) (ah (ae ..) (ac hnz (aj _ _))) λ SN=>?_)
     refine F7 (u:=ns.drop (k+1)) hW' hlk (.head _) ((pick_from _ (k+1)).trans List.map_drop.symm) (by refine ah av (ah List.length_drop (ah aG ?_));exact Lz hn1 hwz) ?_
     refine gq (aY (.tail _ (.tail _ (.head _)))) hnl hki (lJ (S:=qJ S4 (-l) (ns.drop (k+1))) (zj.tr (wx.tr (zh ?_))) λ F=>q2 RD _ i (K3 (cG hc)) (hL4.tr (.same rfl)) F)
     unfold qJ
     exact ah hlk rfl
    ·refine jV rfl (oO (ah (hsy ..) ?_))
     cases hc2:says Ri f with
     | none=>
      exact cT (gq (aY (.tail _ (.head _))) hnl hki (qK (c:=some i) rfl hfr hrow3 ⟨(RD,_),⟨K5 hc2,hse4,((ah hlk rfl):(lk S4.watch _).isSome),hW',hL4.tr (.same rfl)⟩,rfl,cR⟩))
     | some b=>
      cases b with
      | false=>replace hc:=hc2▸hc;exact (ze hc).elim
      | true=>exact cF ⟨(RD,S4),⟨K4 hc2,hse4,ah hlk rfl,hW',hL4⟩,rfl,cR⟩
  ·rintro ⟨A,Ri⟩ ⟨hM,hse,Vm,hW,hL⟩-
   replace hM:=(dt ..)▸hM
   dsimp only at hse
   exact ⟨(A,Ri),⟨⟨K.leave _ _ _ hM,hL⟩,show 100001-Ri.seen<100001-S.seen by lia⟩,rfl,zj⟩
 ·exact gA (q1 A S J0 L0 (dC λ h=>hlt (cM.mpr h)) F)
end
end
section
section
variable{G:Gx}{A A' :Ad}{S S' :SS}{E E' :List (Addr×aT)}{n:Nat}{z:Zs}{Q:VQ}
theorem Db(h:∀U,z.ok G U->U.rd d=some (.dict (jZ f)))(q:Q (.bool (decide (k∈f))) z):lj G (a_ .In) (vi k) (.ref d) z Q:=LW h (ah (yE ..) q)
theorem tM(h:∀U,z.ok G U->U.rd d=some (.dict (jZ f)))(q:Q (.bool (!decide (k∈f))) z):lj G (a_ .NotIn) (vi k) (.ref d) z Q:=C9 h (ah (yE ..) q)
noncomputable def rF(f:List Int)(k:Int):List Int:=if k∈f then f else f++[k]
theorem C7{Q:Zs->Prop}(ht:gt d (.dict (jZ f)) (.dict (jZ (rF f k))) E E')(hz:f.length<=1000000)(q:Q (.s A S E')):DL G (.ref d) (vi k) (.bool true) (.s A S E) Q:=
 C6 (by rewrite [oF];exact ht) (ah (ae ..) hz) q
theorem vD(hd:(d,.dict kvs)∈E)(h64:kvs.length<64)(q:∀D ys,oW false (kvs.map λ p=>(p.1.natAbs:Int)) (kvs.map λ p=>vi p.1) ys->ys.length<=1000->Q (.ref D) (.s A S ((D,.list ys)::E))):
  M0 G (.builtin "sorted") [.ref d] [aF "key"] [.builtin "abs"] (.s A S E) Q:=
 ⟨λ F m U (T:St G.me A S U E)=>qC T hd h64 λ D ys U' hk hl T' =>iY T' (q D ys hk hl)⟩
theorem Ge(h:f.Nodup):(rF f k).Nodup:=by
 unfold rF
 refine eH (λ V=>?_) λ hk=>?_
 ·exact h
 ·exact c8.mpr ⟨h,by simp,λ a ha b hb=>ah (al.mp hb) (λ e=>hk (e▸ha))⟩
theorem Do:x∈rF f k↔x∈f\/x=k:=by
 unfold rF
 refine eH (λ h=>?_) λ V=>?_
 ·exact ⟨.inl,λ e=>e.elim id λ e=>e▸h⟩
 ·rw [aw,al]
theorem Dp:(rF f k).length<=f.length+1:=by
 unfold rF
 refine eH (λ V=>?_) λ V=>?_
 ·exact dR _
 ·exact ah av (az _)
structure Gy(ls f:List Int)(i:Nat):Prop where
 nd:f.Nodup
 mem:∀x,x∈f↔x∈ls.take i
 pw:(ls.take i).Pairwise λ x y=>y≠-x
 len:f.length<=i
theorem Gy.step(K:Gy ls f i)(h:ls[i]? =some l)(hc:-l∉f):Gy ls (rF f l) (i+1):=by
 have ht:ls.take (i+1)=ls.take i++[l]:=af ba (ah h rfl)
 refine ⟨Ge K.nd,λ x=>?_,?_,ac Dp (cw K.len)⟩
 ·rw [ht,Do,aw,al,K.mem]
 ·refine ah ht (io m5 (du K.pw (lm _ _) (λ x hx y hy e=>hc ((K.mem _).mpr ?_))))
  replace e:=al.mp hy▸e
  exact ah e (ah (dN ..) hx)
theorem oR(hn:G.n=n+1)(ha:(a,ao)∈E)(hi:eK ao=some (ls.map vi))(hz:ls.length<64)
  (q1:¬ls.Pairwise (λ x y=>y≠-x)->Q .none (.s A S E)) (q2:ls.Pairwise (λ x y=>y≠-x)->∀c D,t4 ls c->Q (.ref D) (.s A S ((D,.tup (c.map vi))::E))):j4 G 62 [.ref a] (.s A S E) Q:=by
 refine enter hn ["literals"] [.v (.ref a)] rfl rfl rfl (λ vs h=>by refine aS (u2 h) λ V QI=>?_;subst QI;rfl) rfl λ D=>?_
 refine .mk a ao (ls.map vi) (List Int) (λ V=>[("found",.v (.ref D))]) (λ f=> .s A S ((D,.dict (jZ f))::E)) (λ i f=>Gy ls f i) [] rfl hi ⟨.nil,λ x=>kE,.nil,az _⟩ rfl cR (λ i f U V k=>eA (.tail _ ha) k) ?_ ?_
 ·intro i f v hv K _
  refine aM (eE hv) λ l SI QL=>?_;subst QL
  refine Db (jc (.head _)) (cD (λ hc=>?_) λ hc=>?_)
  ·refine lJ wx λ V=>q1 λ hP=>?_
   have:=hP.sublist (il (i+1) ls)
   replace this:=SI▸ba▸this;rewrite [m5] at this
   exact this.2.2 _ ((K.mem _).mp hc) l (.head _) (dN l).symm
  ·refine C7 .here (ac K.len ?_) ⟨rF f l,K.step SI hc,rfl,cR⟩
   have:=(ag.mp SI).1
   exact aP (aq (bD this hz) (ac (az _) (aj _ _)))
 ·intro f K _
  have hl:(jZ f).length<64:=ah (ae ..) (au K.len (ah (ae ..) hz))
  refine vD (.head _) hl λ Uh ys hk WU=>(n7 (aY (.head _)) (ac WU (by decide)) λ SN=>?_)
  (try clear WU);refine c9 (oW.ints hk K.nd) λ c QT SP hc2=>?_;subst QT
  have hm:=K.mem
  have hp:=K.pw
  rw [ae,aX] at hm hp
  exact lJ (gR (.cons_cons _ (.cons _ (.cons _ (.refl _))))) λ V=>q2 hp c SN ⟨SP.nodup_iff.mpr K.nd,λ x=>SP.mem_iff.trans (hm x),hc2⟩
theorem vu(hn:G.n=n+1)(hk:lk S.heights l.natAbs=some k)(q:Q (vn k) (.s A S E)):j4 G 170 [.ref G.me,vi l] (.s A S E) Q:=by
 refine enter hn ["self","literal"] [.me,.v (vi l)] rfl rfl rfl (λ vs h=>by refine fg (j9 h) λ V V QW=>?_;subst QW;rfl) rfl ?_
 exact iV hk (gA q)
theorem FJ(hn:G.n=n+1)(q:Q (.bool ((lk S.known l).getD false)) (.s A S E)):j4 G 210 [.ref G.me,vi l] (.s A S E) Q:=by
 refine enter hn ["self","v"] [.me,.v (vi l)] rfl rfl rfl (λ vs h=>by refine fg (j9 h) λ V V QY=>?_;subst QY;rfl) rfl ?_
 refine bk (Ff lL) ⟨λ F m U (T:St G.me A S U E)=>yO (T.rd .known rfl (by intro _ _ h;cases h)) (ah (fX ..) ?_)⟩
 cases e:lk S.known l<;>replace q:=e▸q<;>exact iY T (gA q)
theorem CU(hn:G.n=n+1)(q:Q (.ref (A .blamed)) (.s A S E)):j4 G 217 [.ref G.me] (.s A S E) Q:=by
 refine enter hn ["self"] [.me] rfl rfl rfl (λ vs h=>by refine aS (u2 h) λ V Rb=>?_;subst Rb;rfl) rfl ?_
 exact gA q
theorem vt(hn:G.n=n+1)(hz:S.log.length<100000)(q:∀A',(∀u,live S u->A' u=A u)->Q .none (.s A' (mn S) E)):j4 G 130 [.ref G.me] (.s A S E) Q:=by
 refine enter hn ["self"] [.me] rfl rfl rfl (λ vs h=>by refine aS (u2 h) λ V Q8=>?_;subst Q8;rfl) rfl ?_
 refine bk (wY wH) (bk (bb _) λ D=>(qT (c:=[]) rfl hz λ A' hA=>gA (q A' λ u hu=>hA u λ e=>?_)))
 subst e;exact absurd hu (bP _)
end
end
section
section
variable{G:Gx}{A A' :Ad}{S S' :SS}{E E' :List (Addr×aT)}{n:Nat}{z:Zs}{Q:VQ}
theorem jr(h:lk S.heats k=some b)(q:Q (vi b) (.s A S E)):AA G (.ref (A .heats)) (vi k) (.s A S E) Q:=⟨λ F m U (T:St G.me A S U E)=>zW T h (iY T q)⟩
theorem xu{Q:Zs->Prop}(hl:S.lock=none)(h0:0<=k/\k<=1000)(q:Q (.s A (S.sHeats (ins S.heats k b)) E)):DL G (.ref (A .heats)) (vi k) (vi b) (.s A S E) Q:=⟨λ F m U (T:St G.me A S U E)=>Bd T hl h0 λ U' T' =>iY T' q⟩
theorem xx(hj:j≠0)(hz:j.natAbs<1073741824)(q:Q (vi (i.fdiv j)) z):lj G (eM .FloorDiv) (vi i) (vi j) z Q:=⟨λ F m U k=>EK hj hz ⟨z,k,q⟩⟩
theorem Gf{Q:Zs->Prop}(hl:S.lock=none)(hx:kv=lr vi hs)(hz:Kv hs)(q:∀A',(∀u,u≠ .heats->A' u=A u)->Q (.s A' (S.sHeats hs) E)):Mg G "heats" (.ref a) A S ((a,.dict kv)::E) Q:=
 ⟨λ U T=>BS T hl hx hz λ A' U' hA T' =>iY T' (q A' hA)⟩
structure JJ(hs:List (Int×Int))(i:Nat)(ys:List (Int×Value))(gs:List (Int×Int)):Prop where
 e:ys=lr vi gs
 k:gs.map (·.1)=(hs.take i).map (·.1)
theorem JJ.step(hK:jE hs)(K:JJ hs i ys gs)(h:(hs.map (·.1))[i]? =some u):JJ hs (i+1) (cW ys u (vi x)) (ins gs u x):=by
 have htk:(hs.take (i+1)).map (·.1)=(hs.take i).map (·.1)++[u]:=af kA (ah kA (af ba (ah h rfl)))
 have hsub:∀j,((hs.take j).map (·.1)).Nodup:=λ j=>Po ((il _ _).map _) hK
 have hgs:jE gs:=by unfold jE;exact ah K.k (hsub i)
 have hun:lk gs u=none:=by
  have hn:=hsub (i+1)
  replace hn:=htk▸hn;rewrite [c8] at hn
  exact io (gF ..) (ah K.k (λ hm=>hn.2.2 u hm u (.head _) rfl))
 exact ⟨ah K.e (kH vi gs u x hgs),ah htk (af (kK (·.1) (·.1) gs u _ hun λ V V=>rfl) (ah K.k rfl))⟩
theorem JJ.kv(h:Kv hs)(K:JJ hs hs.length ys gs):gs.map (·.1)=hs.map (·.1)/\Kv gs:=by
 have e:=K.k
 replace e:=aX▸e
 exact du e (by unfold jE;exact ah e (h.1)) (ah e (h.2))
theorem Il{l:List (Int×Int)}{i:Nat}(hK:jE l)(h:(l.map (·.1))[i]? =some u):∃y,lk l u=some y:=by
 replace h:=ay▸h
 exact aM (aQ.mp h) λ p h1 h2=>⟨p.2,se (i:=i) hK (af h1 (dI h2 rfl))⟩
theorem IX{v:Int}(hn:G.n=n+1)(F:mM S)(hl:S.lock=none)(hv:(lk S.heats v).isSome)
  (q:∀A' hs g,hs.map (·.1)=S.heats.map (·.1)->(∀u,u≠ .heats->A' u=A u)->Q .none (.s A' ((S.sHeats hs).sGain g) E)):j4 G 156 [.ref G.me,vi v] (.s A S E) Q:=by
 refine aS (bW.mp hv) λ x hx=>?_
 have hr:0<=v/\v<=1000:=F.v5.2 v (dP λ e=>by replace hx:=(gF _ _).mpr e▸hx;exact (bw hx).elim)
 refine enter hn ["self","v"] [.me,.v (vi v)] rfl rfl rfl (λ vs h=>by refine fg (j9 h) λ V V QI=>?_;subst QI;rfl) rfl ?_
 have VP:=u5 S.heats v (x+S.gain) hv
 have hK:=F.v5.ins (x+S.gain) hr.1 hr.2
 have hlk:lk (ins S.heats v (x+S.gain)) v=some (x+S.gain):=af (eB ..) (af (if_pos rfl) rfl)
 refine jr hx (xu hl hr ?_)
 generalize ins S.heats v (x+S.gain)=hs at VP hK hlk
 refine jr (b:=x+S.gain) hlk (cD (λ V=>?_) λ V=>?_)
 ·refine .heats A (S.sHeats hs) E (λ i ys=>∃gs,JJ hs i ys gs) rfl rfl hl ⟨[],rfl,rfl⟩ (λ o i ys u hu K=>?_) λ ys K D=>?_
  ·exact aS K λ gs K=>(aS (Il hK.1 hu) λ y hy=>(jr (b:=y) hy (xx (by decide) (by decide) ⟨cR,_,K.step hK.1 hu⟩)))
  ·exact aS K λ gs K=>(aU (K.kv hK) λ e1 e2=>(Gf (hs:=gs) hl K.e e2 λ A' hA=>(gA (q A' gs 1 (e1.trans VP) hA))))
 ·exact gA (q A hs S.gain VP λ V V=>rfl)
end
end
section
section
variable{G:Gx}{A A' :Ad}{S S' :SS}{E E' :List (Addr×aT)}{n:Nat}{z:Zs}{Q:VQ}
theorem lY(h:lk S.causes k=some b)(q:Q (vo b) (.s A S E)):AA G (.ref (A .causes)) (vi k) (.s A S E) Q:=⟨λ F m U (T:St G.me A S U E)=>w6 T h (iY T q)⟩
theorem xz(ha:∀U,z.ok G U->U.rd a=some (.list xs))(hb:∀U,z.ok G U->U.rd b=some (.list ys))(hz:xs.length+ys.length<=1000000)(q:∀D,Q (.ref D) (z.new D (.list (xs++ys)))):lj G (eM .Add) (.ref a) (.ref b) z Q:=
 ⟨λ F m U k=>EO (ha U k) (hb U k) (ac hz (aj _ _)) λ D hD=>⟨_,jd k hD,q D⟩⟩
theorem uK(ha:A (.rowL k)=a)(h:S.rows[k]? =some r)(T:Zs.ok G (.s A S E) U):U.sees a (.list (r.map vi)):=ha▸sV (.rowL k) (lN h) T
theorem vI(h:k∉f):rF f k=f++[k]:=if_neg h
theorem Bm(h:a=b)(k:qu me (put m x (vi b)) m'):qu me (put m x (vi a)) m' :=h▸k
theorem sQ{a:Nat}(h:0<a):(a:Int)-1=((a-1:Nat):Int):=pc (bK h)
structure Ht(S:SS)(A A' :Ad)(hs:List (Int×Int)):Prop where
 k:hs.map (·.1)=S.heats.map (·.1)
 a:∀u,u≠ .heats->A' u=A u
theorem Ht.refl:Ht S A A S.heats:=⟨rfl,λ V V=>rfl⟩
theorem Ht.has(H:Ht S A A' hs)(h:(lk S.heats v).isSome):(lk hs v).isSome:=by
 rw [Option.isSome_iff_ne_none] at h⊢
 refine ah (ne_eq ..) (io (gF ..) (ah H.k ?_));rewrite [<-gF];exact h
structure uo where
 A:Ad
 hs:List (Int×Int)
 g:Int
 ms:List Int
 bh:List Int
 o:Nat
 sp:Nat
 p:Int
 num:Nat
noncomputable abbrev uo.mm(M B:Addr)(i:uo):dZ:=[("self",.me),("number",.v (vn i.num)),("marked",.v (.ref M)),("behind",.v (.ref B)),("open_ones",.v (vn i.o)),("spot",.v (vn i.sp)),("pivot",.v (vi i.p))]
noncomputable abbrev uo.zz(S:SS)(M B:Addr)(E:List (Addr×aT))(i:uo):Zs:=.s i.A ((S.sHeats i.hs).sGain i.g) ((B,.list (i.bh.map vi))::(M,.dict (jZ i.ms))::E)
noncomputable abbrev uo.tt(i:uo):List Int×List Int×Nat:=(i.ms,i.bh,i.o)
structure Jh(S:SS)(A:Ad)(i:uo)(r:List Int)(k:Nat)(j:uo):Prop where
 ht:Ht S A j.A j.hs
 t:j.tt=(r.take k).foldl (dm S i.p) i.tt
 sp:j.sp=i.sp
 p:j.p=i.p
 num:j.num=i.num
theorem Jh.step(J:Jh S A i r k j)(h:r[k]? =some l)(ht:Ht S A A1 hs)(e:dm S i.p j.tt l=t'):Jh S A i r (k+1) {j with A:=A1,hs:=hs,g:=g,ms:=t'.1,bh:=t'.2.1,o:=t'.2.2}:=⟨ht,(ah ba (ah h (ah gc (dI J.t e.symm)))),J.sp,J.p,J.num⟩
theorem Jh.len(J:Jh S A i r k j):j.ms.length<=i.ms.length+r.length/\j.bh.length<=i.bh.length+r.length:=by
 have h:=sd S i.p (r.take k) i.tt
 replace h:=dE J.t▸h
 have h2:(r.take k).length<=r.length:=ah ce (ri ..)
 exact ⟨ac h.1 (aV h2 _),ac h.2 (aV h2 _)⟩
theorem BY(e:lk S.heights l.natAbs=some hh)(h:¬(l≠p/\(l.natAbs:Int)∉t.1/\0<hh)):dm S p t l=t:=by
 unfold dm
 exact ah e (if_neg h)
theorem zD(e:lk S.heights l.natAbs=some hh)(h1:l≠p)(h2:(l.natAbs:Int)∉t.1)(h3:0<hh):dm S p t l=if hh=S.begins.length then (t.1++[(l.natAbs:Int)],t.2.1,t.2.2+1) else (t.1++[(l.natAbs:Int)],t.2.1++[l],t.2.2):=by
 unfold dm
 exact ah e (if_pos ⟨h1,h2,h3⟩)
theorem CS{number:Nat}{L:List Int->List Int->Nat->Nat->Int->Nat->Prop}{P:List Int->Prop}(hn:G.n=n+2)(K:jt S L P)(hl:S.lock=none)(hL:L [] [] 0 S.row.length 0 number)
  (q:∀A' hs g t D,Ht S A A' hs->P t->Q (.ref D) (.s A' ((S.sHeats hs).sGain g) ((D,.list (t.map vi))::E))):j4 G 163 [.ref G.me,vn number] (.s A S E) Q:=by
 refine enter hn ["self","number"] [.me,.v (vn number)] rfl rfl rfl (λ vs h=>by refine fg (j9 h) λ V V QI=>?_;subst QI;rfl) rfl ?_
 intro M
 refine bk (bb _) λ B=>(jq (.mk uo (uo.mm M B) (uo.zz S M B E) (λ i=>Ht S A i.A i.hs/\L i.ms i.bh i.o i.sp i.p i.num) (·.sp) ⟨A,S.heats,S.gain,[],[],0,S.row.length,0,number⟩ ⟨.refl,hL⟩ rfl cR λ i hi V=>cT (aU hi λ H Yv=>?_)));clear hi
 obtain ⟨r,hr,Tq,XZ,W_,Vn,hrk,j,l,hj,hjl,VR,Vq,ho,hP,hL'⟩:=K.turn _ _ _ _ _ _ Yv
 refine mF (ag.mp hr).1 (.mk (i.A (.rowL i.num)) (.list (r.map vi)) _ uo (uo.mm M B) (uo.zz S M B E) (Jh S A i r) i rfl rfl ⟨H,rfl,rfl,rfl,rfl⟩ rfl cR (λ k j' U J T=>uK (S:=(S.sHeats j'.hs).sGain j'.g) ((J.ht.a (.rowL i.num) (λ h=>nomatch h)).trans (H.a (.rowL i.num) (λ h=>nomatch h)).symm) hr T) ?_ ?_)
 ·intro k c v hv J ⟨U,ok⟩
  have F:=lM ok
  refine aM (eE hv) λ y hy QL=>?_;subst QL
  refine aU (hrk y (am hy)) λ Uz X9=>(aS (bW.mp Uz) λ hh Uz=>?_)
  have hlen:=J.len
  have stay:(¬(y≠i.p/\(y.natAbs:Int)∉c.ms/\0<hh))->Jh S A i r (k+1) c:=λ h=>J.step hy J.ht (BY Uz h)
  have ep:=J.p
  refine cD (λ c1=>?_) λ c1=>cF ⟨c,stay λ h=>c1 (ah ep (h.1)),rfl,cR⟩
  replace c1:=ep▸c1
  refine tM (jc (.tail _ (.head _))) (.mk (λ c2=>?_) λ c2=>cF ⟨c,stay λ h=>h.2.1 (of_decide_eq_true ((oA _).mp c2)),rfl,cR⟩)
  have c2:=of_decide_eq_false ((b9 _).mp c2)
  refine iV (b:=hh) Uz (cD (λ c3=>?_) λ c3=>cF ⟨c,stay λ h=>c3 (cM.mpr h.2.2),rfl,cR⟩)
  have c3:0<hh:=cM.mp c3
  have Un:=zD (t:=c.tt) Uz c1 c2 c3
  refine cT (C7 (.there .here) (ac hlen.1 (ac (di XZ Tq) (ac (az _) (aj _ _)))) (IX rfl {F with} hl (J.ht.has X9) λ A1 hs g e1 e2=>?_))
  have H₁:Ht S A A1 hs:=⟨e1.trans J.ht.k,λ u hu=>(e2 u hu).trans (J.ht.a u hu)⟩
  refine iV (b:=hh) Uz (gO (cD (λ c4=>?_) λ c4=>?_))
  ·replace Un:=(if_pos (show hh=S.begins.length from gU.mp c4))▸Un
   exact ⟨_,J.step (g:=g) hy H₁ Un,rfl,ah (vI c2) cR⟩
  ·replace Un:=(if_neg (show¬hh=S.begins.length from λ e=>c4 (gU.mpr e)))▸Un
   refine bk (wY (aY (.head _))) (tP .here (ah (ae ..) (ac hlen.2 (ac (di W_ Tq) (ac (az _) (aj _ _))))) ⟨_,J.step (g:=g) hy H₁ Un,rfl,?_⟩)
   exact ah (vI c2) (((ah aD cR):iG _ (.s _ _ ((B,.list (c.bh.map vi++[vi y]))::_)) (.s _ _ ((B,.list ((c.bh++[y]).map vi))::_))))
 ·intro c J ⟨U,ok⟩
  have ht:=J.t
  replace ht:=aX▸(ae ..)▸ht
  rw [<-ht] at VR Vq ho hP hL'
  have hlen:=J.len
  obtain ⟨cA,UJ,cg,cm,cb,co,ZC,cp,cn⟩:=c
  clear ht ok;obtain ⟨H₁,-,e1,e2,e3⟩:=J
  dsimp only at VR Vq ho hP hL' H₁ e1 e2 e3 hlen
  subst e1 e2 e3
  have hsp0:0<i.sp:=au (bb _) hj
  refine .mk Nat (λ s=>uo.mm M B ⟨cA,UJ,cg,cm,cb,co,s,i.p,i.num⟩) (λ s=>uo.zz S M B E ⟨cA,UJ,cg,cm,cb,co,s,i.p,i.num⟩) (λ s=>j<=s/\s<i.sp) id (i.sp-1) (bk (AK (bK hj)) (aq (OP hsp0 (by decide)) (az _))) (Bm (sQ hsp0) rfl) cR ?_
  rintro s ⟨hs1,hs2⟩-
  obtain ⟨y,hy⟩:∃y,S.row[s]? =some y:=⟨_,aA (aq hs2 Vn)⟩
  refine qS (l:=y) hy (tM (jc (.tail _ (.head _))) ?_)
  by_cases hsj:s=j
  ·clear Vq hs1;subst hsj
   cases hjl.symm.trans hy
   refine .mk (λ h=>?_) λ V=>?_
   ·replace h:=decide_eq_true VR▸h;exact (jD h).elim
   ·refine qS (l:=l) hy (cD (λ Us=>?_) λ Us=>?_)
    ·have Us:co=1:=by have:(co:Int)-1=0:=Us;exact gU.mp (Int.eq_of_sub_eq_zero Us)
     refine bk (aH rfl) λ D=>(xz (aY (.head _)) (aY (.tail _ (.head _))) (by refine ah (ae ..) (?_:1+cb.length<=_);exact N5 hlen Tq W_) λ SN=>?_)
     exact lJ (gR (.cons_cons _ (.cons _ (.cons _ (.cons _ (.refl _)))))) λ V=>q cA UJ cg (-l::cb) SN H₁ (hP Us)
    ·refine aM (hL' λ e=>Us (((ah (show co=1 from e) rfl):(co:Int)-1=0))) λ c hc hLc=>?_
     exact lY hc ⟨⟨cA,UJ,cg,cm,cb,co-1,s,l,c⟩,⟨⟨H₁,hLc⟩,hj⟩,(((ah (sQ ho) rfl):qu _ (put (put (put (uo.mm M B ⟨cA,UJ,cg,cm,cb,co,s,i.p,i.num⟩) "open_ones" (vi ((co:Int)-1))) "pivot" (vi l)) "number" (vn c)) (uo.mm M B ⟨cA,UJ,cg,cm,cb,co-1,s,l,c⟩))),cR⟩
  ·refine .mk (λ h=>?_) λ h=>?_
   ·have h0:0<s:=N4 hs1 hsj
    exact ⟨s-1,⟨N0 hs2 hs1 hsj,((OP h0 (bn _)):s-1<s)⟩,Bm (sQ h0) rfl,cR⟩
   ·replace h:=(decide_eq_false (Vq s y (NZ hs1 hsj) hs2 hy))▸h;exact (ze h).elim
end
end
section
section
variable{G:Gx}{A A' :Ad}{S S' :SS}{E E' :List (Addr×aT)}{n:Nat}{z:Zs}{Q:VQ}
theorem gE(hs:E.Sublist E₁)(h:∀E',p∈E' ->E.Sublist E' ->Q v (.s A S E')):Q v (.s A S (p::E₁)):=h _ (.head _) (hs.cons _)
theorem Cb(hm:m.lookup x=some .me)(q:∀D,Q (.ref D) (.s A S ((D,.raw (jv (.ref 170) (.ref G.me)))::E))):gP G (.Attribute (.Name x p) "height_of" pos) m (.s A S E) Q:=
 ⟨λ F U g (T:St G.me A S U E)=>As T (mq hm) λ D U' T' =>iY T' (q D)⟩
theorem tK(hn:G.n=n+1+1)(hl:(l,.list (t.map vi))∈E)(hq:(q,.raw (jv (.ref 170) (.ref G.me)))∈E)(h64:t.length<64)(hh:∀x∈t,(lk S.heights x.natAbs).isSome)
  (h:∀D (τ:List Int),τ.Perm t->τ.Pairwise (λ x y=>j_ S y<=j_ S x)->Q (.ref D) (.s A S ((D,.list (τ.map vi))::E))):M0 G (.builtin "sorted") [.ref l] [aF "key",aF "reverse"] [.ref q,.bool true] (.s A S E) Q:=
 ⟨λ F m U (T:St G.me A S U E)=>ah hn (pM T hl hq h64 hh λ D τ U' h1 h2 T' =>iY T' (h D τ h1 h2))⟩
theorem jt.cl{L:List Int->List Int->Nat->Nat->Int->Nat->Prop}{P:List Int->Prop}(K:jt S L P)(k:Nat):jt (S.sClashes k) L P:=⟨K.turn⟩
theorem yx(h:(lk S.heights l.natAbs).isSome):lk S.heights l.natAbs=some (j_ S l):=by
 refine aS (bW.mp h) λ y hy=>?_
 unfold j_;rewrite [hy];rfl
noncomputable def SS.lrn(S:SS)(hs:List (Int×Int))(g:Int):SS:=((S.sClashes (S.clashes+1)).sHeats hs).sGain g
theorem uP:∀(k:Nat) (S:SS),(gS k S).log=S.log
 | 0,S=>rfl
 | k+1,S=>by
  have ih:=uP k S
  unfold gS oK
  cases (gS k S).row.getLast? with
  | none=>exact ih
  | some l=>exact ih
theorem nq(S:SS)(k:Nat):(bT S k).log=S.log:=by
 unfold bT
 cases S.begins[k]? with
 | none=>rfl
 | some b=>exact uP _ S
theorem wV(S:SS)(c:List Int):(gl S c).log=S.log:=by
 unfold gl
 have:∀(l:List Int) (S' :SS),S'.log=S.log->(l.foldl (λ S l=>fz S l (S.rows.length-1)) S').log=S.log:=by
  intro l
  induction l with
  | nil=>exact λ S' h=>h
  | cons x r ih=>exact λ S' h=>ih _ h
 exact this _ _ rfl
theorem wU(S:SS)(d:Int)(c τ:List Int):(jT S d c τ).log=S.log++[c]:=by
 cases τ with
 | nil=>exact nq _ 0
 | cons x r=>exact (wV _ _).trans (nq _ _)
theorem FM{L:List Int->List Int->Nat->Nat->Int->Nat->Prop}{P:List Int->Prop}(hn:G.n=n+3)(K:S.begins≠[]->jt S L P/\L [] [] 0 S.row.length 0 number)(hP:∀t,P t->q7 S t)(hl:S.lock=none)(R:Tr S)
  (T7:S.log.length<90000) (VC:S.rows.length<90000) (VB:Wz S 80000) (Vl:S.row.length<90000)
  (q1:S.begins=[]->∀A',(∀i,i<S.log.length->A' (.logT i)=A (.logT i))->Q .none (.s A' (mn (S.sClashes (S.clashes+1))) E))
  (q2:S.begins≠[]->∀A' hs g t d c τ g',(∀i,i<S.log.length->A' (.logT i)=A (.logT i))->P t->hs.map (·.1)=S.heats.map (·.1)->t=d::t.tail->t4 t c->τ.Perm t.tail->τ.Pairwise (λ x y=>j_ S y<=j_ S x)->Q .none (.s A' ((jT (S.lrn hs g) d c τ).sGain g') E)):j4 G 177 [.ref G.me,vn number] (.s A S E) Q:=by
 refine enter hn ["self","number"] [.me,.v (vn number)] rfl rfl rfl (λ vs h=>by refine fg (j9 h) λ V V QI=>?_;subst QI;rfl) rfl ?_
 refine gO (cD (λ hb=>?_) λ hb=>?_)
 ·have hb:S.begins=[]:=d7 (gU.mp hb)
  exact vt rfl (bD T7 (by decide)) λ A' V=>gA (q1 hb A' λ i hi=>V (.logT i) hi)
 ·have hb:S.begins≠[]:=λ e=>hb (((ah e rfl):((S.begins.length:Nat):Int)=0))
  refine aU (K hb) λ K1 K2=>(CS rfl (K1.cl _) hl K2 λ RD hs g t D H Xc=>?_)
  have W:=hP t Xc
  obtain ⟨d,tl,ht⟩:∃d tl,t=d::tl:=jO W.ne
  refine bk (wY wH) (oR rfl (.head _) rfl W.len (λ h=>absurd W.pw h) λ V c Zc hc=>(qT rfl (bD T7 (by decide)) λ A4 Tm=>?_))
  subst ht
  have VX:=W.rng d (.head _)
  have h64:tl.length<64:=Nat.lt_of_succ_lt W.len
  have h65:((d::tl).map vi).length<=10000000:=ah (ae ..) (ac (aP W.len) (by decide))
  refine tL (λ h=>(bw h).elim) (aY (.head _)) h65 λ Zb=>(tL (λ h=>(bw h).elim) (aY (.tail _ (.head _))) h65 λ Za=>(ah (show jS ((d::tl).map vi) none (some 1) none=[vi d] from iZ _ 1) (ah (show jS ((d::tl).map vi) (some 1) none none=tl.map vi from pick_from _ 1) (Cb rfl λ Y_=>(tK rfl (.tail _ (.head _)) (.head _) h64 W.hts λ Y9 τ hp ho=>?_)))))
  have Ta:=hp.length_eq
  have hτr:∀l∈d::τ,-1000<=l/\l<=1000:=λ l hl=>(aL.mp hl).elim (λ e=>e▸VX) λ hl=>W.rng l (.tail _ (hp.mem_iff.mp hl))
  refine xz (aY (.tail _ (.tail _ (.tail _ (.head _))))) (aY (.head _)) (ah (ae ..) (ah Ta (((aP (aq (gK h64 _) (ac (az _) (aj _ _)))):1+tl.length<=_)))) λ D9=>?_
  refine gE (E:=E) (((((uh E).cons _).cons _).cons _).cons _ |>.cons _) λ E9 h9 WW=>?_
  have h9:(D9,aT.list ((d::τ).map vi))∈E9:=h9
  have hln:((d::τ).map vi).length=tl.length+1:=af (ae ..) (af bF (ah Ta rfl))
  have hR:Tr ((S.lrn hs g).sLog (S.log++[c])):=⟨R.nd,R.kn⟩
  have hlz:tl.length+1<=1000000:=ac (bK h64) (ac (az _) (aj _ _))
  have hA4:∀i,i<S.log.length->A4 (.logT i)=A (.logT i):=λ i hi=>(Tm (.logT i) λ e=>by cases e;exact absurd hi (bP _)).trans (H.a _ λ e=>nomatch e)
  have Q2:=λ A' hA τ hp ho g' =>q2 hb A' hs g (d::tl) d c τ g' hA Xc H.k rfl hc hp ho
  have SJ:=n6 ((S.lrn hs g).sLog (S.log++[c]))
  have hr1:∀k,(bT ((S.lrn hs g).sLog (S.log++[c])) k).rows=S.rows:=qQ _
  have hw1:∀k,(bT ((S.lrn hs g).sLog (S.log++[c])) k).watch=S.watch:=pC _
  have hhg:∀x,j_ ((S.lrn hs g).sLog (S.log++[c])) x=j_ S x:=λ V=>rfl
  have h1d:((d::τ).map vi)[0]? =some (vi d):=rfl
  have hlz7:((d::τ).map vi).length<=1000000:=hln▸hlz
  cases τ with
  | nil=>
   refine gp (aY h9) hln hlz (cD (λ h=>?_) λ V=>?_)
   ·have h:((tl.length+1:Nat):Int)>1:=h
    replace h:=dE Ta▸h;cases h
   refine mC (k:=0) rfl hR λ A6 Sq=>(gq (j:=0) (aY h9) hlz7 h1d (gp (aY h9) hln hlz (cD (λ h=>?_) λ V=>?_)))
   ·have h:((tl.length+1:Nat):Int)>1:=h
    replace h:=dE Ta▸h;cases h
   exact qK (c:=none) rfl VX (au (SJ 0) (bD Vl (by decide))) (xx (by decide) (by decide) (lJ (gR WW) λ V=>Q2 A6 (λ i hi=>(Sq (.logT i) λ e=>nomatch e).trans (hA4 i hi)) [] hp ho _))
  | cons x RL =>
   have hgt1:((tl.length+1:Nat):Int)>1:=dI Ta (ah bF (cM.mpr (eh (aj _ _))))
   have h2d:((d::x::RL).map vi)[1]? =some (vi x):=rfl
   refine gp (aY h9) hln hlz (cD (λ V=>(gq (j:=1) (aY h9) hlz7 h2d (vu rfl (yx (W.hts x (hp.mem_iff.mp (.head _)))) (mC (k:=j_ S x) rfl hR λ A6 Sq=>(gq (j:=0) (aY h9) hlz7 h1d (gp (aY h9) hln hlz (cD (λ V=>(CT rfl h9 hτr (dI (ae (f:=vi)) (ah hln (ac (bK h64) (ac (az _) (aj _ _))))) (au (aC (congrArg fh (hr1 _))) (bD VC (by decide))) (λ l=>ac (aC (congrArg (λ W=>((lk W l).getD []).length) (hw1 _))) (ac (VB l) (by decide))) λ A7 YJ=>?_)) λ h=>absurd hgt1 h))))))) λ h=>absurd hgt1 h)
   refine qK (c:=some (bT ((S.lrn hs g).sLog (S.log++[c])) (j_ S x)).rows.length) rfl VX (ah (zJ ..) (au (SJ _) (bD Vl (by decide)))) ?_
   exact xx (by decide) (by decide) (lJ (gR WW) λ V=>(((ah (hr1 ..) (Q2 A7 (λ i hi=>(YJ (.logT i) (show i<(bT ((S.lrn hs g).sLog (S.log++[c])) (j_ S x)).log.length by rw [nq,show ((S.lrn hs g).sLog (S.log++[c])).log=S.log++[c] from rfl,av];exact ky hi)).trans ((Sq (.logT i) λ e=>nomatch e).trans (hA4 i hi))) (x::RL) hp ho _)):Q .none (.s A7 ((j8 (gl (bT ((S.lrn hs g).sLog (S.log++[c])) (j_ S x)) (d::x::RL)) d (some (bT ((S.lrn hs g).sLog (S.log++[c])) (j_ S x)).rows.length)).sGain _) E))))
end
end
section
section
variable{G:Gx}{A A' :Ad}{S S' :SS}{E E' :List (Addr×aT)}{n:Nat}{z:Zs}{Q:VQ}
theorem F9(ht:gt D (.dict []) (.dict [(i,v)]) E E')(q:Q (.ref D) (.s A S E')):Pe G D i v (.s A S E) Q:=⟨λ U (T:St G.me A S U E)=>⟨T.at_ ht.mem,iY (T.turn ht) q⟩⟩
theorem I3(ht:gt d (.dict (jZ f)) (.dict (jZ (g.foldl iN f))) E E')(hz:f.length+g.length<=1000000)(q:Q .none (.s A S E')):lA G (.builtin "dict.update") [.ref d,.ref o] (.s A S ((o,.dict (jZ g))::E)) Q:=
 ⟨λ F m U (T:St G.me A S U ((o,.dict (jZ g))::E))=>by
  have hne:d≠o:=λ e=>(bp.mp T.nd).1 (aJ.mpr ⟨_,ht.mem,e⟩)
  refine Ai (T.at_ (.tail _ ht.mem)) (T.at_ (.head _)) hne (ah (ae ..) (ah (ae ..) hz)) ?_
  exact ah (pi ..) (iY ((T.turn (.there ht)).subl (bM _ _)) q)⟩
theorem vJ{Q:Zs->Prop}(hx:xs=bs.map vi)(q:∀A',(∀u,u≠ .blamed->A' u=A u)->Q (.s A' (S.sBlamed bs) E)):Mg G "blamed" (.ref a) A S ((a,.tup xs)::E) Q:=
 ⟨λ U T=>zw T hx λ A' U' hA T' =>iY T' (q A' hA)⟩
theorem zO(q:Q (.bool true) z):lj G (a_ .IsNot) (.ref a) .none z Q:=⟨λ F m U k=>xj ⟨z,k,q⟩⟩
theorem wW(q:Q (.bool false) z):lj G (a_ .IsNot) .none .none z Q:=⟨λ F m U k=>xk ⟨z,k,q⟩⟩
noncomputable def PO(S:SS)(l:Int):List Int×List Int:=S.row.reverse.foldl (d8 S) ([l],[(l.natAbs:Int)])
structure Mp(S:SS)(l:Int)(i:Nat)(p:List Int×List Int):Prop where
 e:p=(S.row.reverse.take i).foldl (d8 S) ([l],[(l.natAbs:Int)])
 fl:p.1.length<=1+i
 ml:p.2.length<=1+1000*i
theorem Mp.step(J:Mp S l i p)(h:S.row.reverse[i]? =some y)(e:d8 S p y=p')(h1:p'.1.length<=p.1.length+1)(h2:p'.2.length<=p.2.length+1000):Mp S l (i+1) p' :=⟨(ah ba (ah h (ah gc (dI J.e e.symm)))),ac h1 (cw J.fl),by have:=J.ml;exact ac h2 (b8 this _)⟩
theorem Ah(h:¬((y.natAbs:Int)∈p.2/\0<j_ S y)):d8 S p y=p:=if_neg h
theorem vC(h:(y.natAbs:Int)∈p.2/\0<j_ S y)(ho:lk S.causes y.natAbs=some none):d8 S p y=(p.1++[y],p.2):=by
 unfold d8
 exact af (if_pos h) (ah ho rfl)
theorem vB(h:(y.natAbs:Int)∈p.2/\0<j_ S y)(ho:lk S.causes y.natAbs=some (some c))(hr:S.rows[c]? =some r):d8 S p y=(p.1,((r.map λ x=>(x.natAbs:Int)).foldl iN []).foldl iN p.2):=by
 unfold d8
 exact af (if_pos h) (ah ho (dI (jj (d:=[]) hr) rfl))
theorem FN(hn:G.n=n+2)(K:yY S)(hz:S.log.length<90000)
  (q:∀A' f,(∀i,i<S.log.length->A' (.logT i)=A (.logT i))->f=(PO S l).1->(¬(f.map λ x=>-x).Pairwise (λ x y=>y≠-x)->Q .none (.s A' (S.sBlamed f) E))/\
   ((f.map λ x=>-x).Pairwise (λ x y=>y≠-x)->∀c,t4 (f.map λ x=>-x) c->Q .none (.s A' ((S.sBlamed f).sLog (S.log++[c])) E))):j4 G 182 [.ref G.me,vi l] (.s A S E) Q:=by
 refine enter hn ["self","literal"] [.me,.v (vi l)] rfl rfl rfl (λ vs h=>by refine fg (j9 h) λ V V QI=>?_;subst QI;rfl) rfl ?_
 refine bk (aH rfl) λ F D=>(F9 .here ?_)
 have hk:=K.len
 have hrl:S.row.reverse.length<=50:=ah jx hk
 refine tL (λ h=>by have QL:=sI h;clear h;cases QL) wF (ah (ae ..) (ac hk (aj _ _))) λ R=>?_
 refine ah (show jS (S.row.map vi) none none (some (-1))=S.row.reverse.map vi from (BN _).trans (List.map_reverse ..).symm) (.mk R (.list (S.row.reverse.map vi)) _ (List Int×List Int) (λ V=>[("self",.me),("found",.v (.ref F)),("marked",.v (.ref D))]) (λ p=> .s A S ((R,.list (S.row.reverse.map vi))::(D,.dict (jZ p.2))::(F,.list (p.1.map vi))::E))
  (Mp S l) ([l],[(l.natAbs:Int)]) rfl rfl ⟨rfl,az _,az _⟩ rfl cR (λ i p U V k=>eA (.head _) k) ?_ ?_)
 ·intro i p v hv J _
  refine aM (eE hv) λ y hy QT=>?_;subst QT
  have hi:i<50:=aq (ag.mp hy).1 hrl
  have hym:y∈S.row:=gw.mp (am hy)
  refine aM (K.cau y hym) λ o SP hc2=>?_
  have stay:¬((y.natAbs:Int)∈p.2/\0<j_ S y)->Mp S l (i+1) p:=λ h=>J.step hy (Ah h) (dR _) (aB _ _)
  have SO:=J.fl
  have hml:=J.ml
  refine Db (jc (.tail _ (.head _))) (cD (λ c1=>(iV (yx (K.hts y hym)) (cD (λ c2=>?_) λ c2=>cF ⟨p,stay λ h=>c2 (cM.mpr h.2),rfl,cR⟩))) λ c1=>cF ⟨p,stay λ h=>c1 h.1,rfl,cR⟩)
  have c3:(y.natAbs:Int)∈p.2/\0<j_ S y:=⟨c1,cM.mp c2⟩
  refine cT (lY SP (Km ?_))
  cases o with
  | none=>
   refine cT (bk (wY (aY (.tail _ (.tail _ (.head _))))) (tP (.there (.there .here)) (by refine ah (ae ..) ?_;exact NY hi SO) ⟨_,J.step hy (vC c3 SP) (ah av (az _)) (aB _ _),rfl,?_⟩))
   exact ((ah aD cR):iG _ (.s A S (_::_::(F,.list (p.1.map vi++[vi y]))::E)) (.s A S (_::_::(F,.list ((p.1++[y]).map vi))::E)))
  | some c=>
   refine aM (hc2 c rfl) λ r hr Tq=>(cF (bk (Ff (jc (.tail _ (.head _)))) (lY SP (mF (ag.mp hr).1 (.mk (A (.rowL c)) (.list (r.map vi)) _ (λ i ys=>ys=jZ (((r.take i).map λ x=>(x.natAbs:Int)).foldl iN [])) rfl rfl (ah (ae ..) (ac Tq (aj _ _))) rfl (λ U k=>uK rfl hr k) (λ q ys w hw hys=>?_) λ ys hys b=>?_)))))
   ·refine aM (eE hw) λ y T8 QW=>?_;subst QW
    exact ⟨cR,(ah hys (af (lH ..) (ah ba (ah T8 (ah aD (ah gc rfl))))))⟩
   ·have hbl:=mJ (r.map λ x=>(x.natAbs:Int)) []
    have hb2:=mJ ((r.map λ x=>(x.natAbs:Int)).foldl iN []) p.2
    replace hbl:=fR▸(ae ..)▸hbl
    subst hys
    exact ah (ae ..) (ah aX (I3 (.there .here) (NX hi hbl hml Tq) ⟨_,J.step hy (vB c3 SP hr) (dR _) (by refine (?_:(Na iN p.2 _).length<=_);exact NW hbl hb2 Tq),rfl,cR⟩))
 ·intro p J ⟨U,ok⟩
  have T7:=(lM ok).z10
  have he:=J.e
  have SO:=J.fl
  replace SO:=(ae ..)▸SO
  replace he:=aX▸(ae ..)▸he
  obtain ⟨fd,mk⟩:=p
  have hq:=λ A' hA=>q A' fd hA (congrArg HB he)
  have h64:fd.length<64:=au SO (aq (Nat.add_lt_add_of_lt_of_le (bn _) hrl) (ac (az _) (aj _ _)))
  refine n7 (aY (.tail _ (.tail _ (.head _)))) (ah (ae ..) (aP (aq h64 (aj _ _)))) λ Uh=>?_
  refine vJ rfl λ A1 RT=>(.mk F (.list (fd.map vi)) _ Unit (λ V=> .s A1 (S.sBlamed fd) ((R,.list (S.row.reverse.map vi))::(D,.dict (jZ mk))::(F,.list (fd.map vi))::E)) (λ i ys V=>ys=((fd.take i).map λ x=>-x).map vi) () rfl rfl (ah (ae ..) (aP (aq h64 (aj _ _)))) rfl cR (λ i ys V U V k=>eA (.tail _ (.tail _ (.head _))) k) (λ i ys V w hw hys V=>?_) λ ys V hys V b=>?_)
  ·refine aM (eE hw) λ y T8 QY=>?_;subst QY
   exact ⟨(),(ah hys (ah ba (ah T8 (ah aD (ah aD rfl))))),cR⟩
  ·subst hys
   refine ah (ae ..) (ah aX (oR rfl (.head _) rfl (ah (ae ..) h64) (λ hp=>?_) λ hp c SN hc=>?_))
   ·exact wW (cF (lJ (gR (.cons _ (.cons _ (.cons _ (.cons _ (.refl _)))))) λ V=>(hq A1 λ i hi=>RT (.logT i) λ e=>nomatch e).1 hp))
   ·exact zO (cT (bk (wY wH) (qT rfl (bD hz (by decide)) λ RD SG=>(lJ (gR (.cons _ (.cons _ (.cons _ (.cons _ (.refl _)))))) λ V=>(hq RD λ i hi=>(SG (.logT i) λ e=>by cases e;exact absurd hi (bP _)).trans (RT (.logT i) λ e=>nomatch e)).2 hp c hc))))
end
end
section
section
variable{G:Gx}{A A' :Ad}{S S' :SS}{E E' :List (Addr×aT)}{n:Nat}{z:Zs}{Q:VQ}
theorem Dd{us vs:List Int}(ha:∀U,z.ok G U->U.rd a=some (.tup xs))(hb:∀U,z.ok G U->U.rd b=some (.tup ys))(hx:xs=us.map vi)(hy:ys=vs.map vi)(q:∀r:Bool,Q (.bool r) z):lj G (a_ .Gt) (.ref a) (.ref b) z Q:=
 ⟨λ F m U k=>by subst hx hy;exact vp (ha U k) (hb U k) λ r=>⟨z,k,q r⟩⟩
theorem vE(q:Q (.bool ((lk S.liked k).getD d)) (.s A S E)):lA G (.builtin "dict.get") [.ref (A .liked),vi k,.bool d] (.s A S E) Q:=
 ⟨λ F m U (T:St G.me A S U E)=>yO (T.rd .liked rfl (by intro _ _ h;cases h)) (by refine ah (fX ..) ?_;cases e:lk S.liked k<;>replace q:=e▸q<;>exact iY T q)⟩
theorem BK:∀U,Zs.ok G (.s A S E) U->U.rd (A .liked)=some (.dict (lr vb S.liked)):=ja .liked rfl (by intro _ _ h;cases h)
theorem lZ(hz:S.begins.length<100000)(q:Q .none (.s A (S.sBegins (S.begins++[k])) E)):lA G (.builtin "list.append") [.ref (A .begins),vn k] (.s A S E) Q:=⟨λ F m U (T:St G.me A S U E)=>xB T hz λ U' T' =>iY T' q⟩
structure Jk(S:SS)(i:Nat)(v:Int):Prop where
 h:Mq S v ((S.heats.map (·.1)).take i)
theorem Jk.old(J:Jk S i v)(hk:(S.heats.map (·.1))[i]? =some k)(h:v=0->(lk S.known k).isSome):Jk S (i+1) v:=⟨(ah ba (ah hk (J.h.elim (λ a=> .inl ⟨a.1,λ j hj=>(aw.mp hj).elim (a.2 j) λ hj=>al.mp hj▸h a.1⟩) λ a=> .inr ⟨ak _ a.1,a.2⟩)))⟩
theorem Jk.new(hk:(S.heats.map (·.1))[i]? =some k)(h:lk S.known k=none):Jk S (i+1) k:=⟨.inr ⟨(ah ba (ah hk (ai _ (.head _)))),h⟩⟩
theorem Ae(hn:G.n=n+1)(hl:S.lock=none)(q:∀v,Mq S v (S.heats.map (·.1))->Q (vi v) (.s A S E)):j4 G 189 [.ref G.me] (.s A S E) Q:=by
 refine enter hn ["self"] [.me] rfl rfl rfl (λ vs h=>by refine aS (u2 h) λ V QI=>?_;subst QI;rfl) rfl ?_
 refine .heats A S E Int (λ v=>[("best",.v (vi v)),("self",.me)]) (Jk S) 0 rfl rfl hl ⟨.inl ⟨rfl,λ k hk=>nomatch hk⟩⟩ rfl (λ o i b k hk J=>?_) λ v J=>?_
 ·refine aS (lO (am hk)) λ x hx=>(C9 lL (ah (fX ..) (ah oy (?_:nS (.bool (!(lk S.known k).isSome)) _))))
  cases hkn:lk S.known k with
  | some y=>exact cF ⟨b,J.old hk λ V=>ah hkn rfl,rfl,cR⟩
  | none=>
   have hnew:Jk S (i+1) k:=.new hk hkn
   refine cT (cD (λ h0=>cT ⟨k,hnew,rfl,cR⟩) λ h0=>?_)
   have hbB:b∈(S.heats.map (·.1)).take i/\lk S.known b=none:=J.h.elim (λ h=>absurd h.1 h0) id
   exact aS (lO ((bU _ _) hbB.1)) λ z hz=>(jr (b:=x) hx (bk (aH rfl) λ Uh=>(jr (b:=z) hz (bk (aH rfl) λ SN=>(Dd (us:=[x,-k]) (vs:=[z,-b]) (gg (.tail _ (.head _))) (gg (.head _)) rfl rfl λ r=>(.mk (λ V=>cT ⟨k,hnew,rfl,zj⟩) λ V=>cF ⟨b,J.old hk λ e=>absurd e h0,rfl,zj⟩))))))
 ·have h:=J.h
  rewrite [<-ae (f:=(·.1))] at h;replace h:=aX▸h
  exact gA (q v h)
theorem CV{P:SS->Option Bool->Prop}(hn:G.n=n+3)(K:vT S as P)(ha:(a,.list (as.map vi))∈E)(F:mM S)
  (q:∀A' S' o,P S' o->nt A S A' S' ->Q (wn o) (.s A' S' E)):j4 G 196 [.ref G.me,.ref a] (.s A S E) Q:=by
 refine enter hn ["self","assumptions"] [.me,.v (.ref a)] rfl rfl rfl (λ vs h=>by refine fg (j9 h) λ V V QL=>?_;subst QL;rfl) rfl ?_
 have hlen:(as.map vi).length=as.length:=ae ..
 have hzr:S.row.length<100000:=bD K.b1 (by decide)
 have hzb:S.begins.length<100000:=bD K.b2 (by decide)
 have rest:∀l,-1000<=l/\l<=1000->P (ka S l) none->(says S l=none->P (j8 (S.sBegins (S.begins++[S.row.length])) l none) none)/\∀b,says S l=some b->P (S.sBegins (S.begins++[S.row.length])) none:=λ l hl hp=>by
  unfold ka at hp
  cases e:says S l with
  | none=>replace hp:=e▸hp;exact ⟨λ V=>hp,λ V h=>nomatch h⟩
  | some b=>replace hp:=e▸hp;exact ⟨λ h=>(nomatch h),λ V V=>hp⟩
 refine gO (gp (aY ha) hlen (ac K.b4 (by decide)) (cD (λ hc=>?_) λ hc=>?_))
 ·have hc:S.begins.length<as.length:=cM.mp hc
  obtain ⟨l,hl⟩:∃l,as[S.begins.length]? =some l:=⟨_,aA hc⟩
  have SY:=K.b5 l (am hl)
  refine aU (K.asm l hl) λ q1 q2=>(gO (gq (v:=vi l) (aY ha) (ah hlen (ac K.b4 (by decide))) (af ay (ah hl rfl)) ?_))
  refine jV rfl (tz ((⟨λ hs=>?_,λ hs=>?_⟩:t8 (says S l==some false) _ _)))
  ·refine cu (q1 (cG hs)) λ B1 B2 B3=>(FN rfl B1 K.b3 λ A' f hA hf=>?_)
   subst hf
   exact ⟨λ hp=>gA (q A' _ (some false) (B2 hp) ⟨az _,hA⟩),λ hp c hc=>gA (q A' _ (some false) (B3 hp c hc) ⟨ac (aB _ _) (aC av.symm),hA⟩)⟩
  ·refine aU (rest l SY (q2 (ne_of_beq_false hs))) λ r1 r2=>(bk (wY mo) (jq (lZ hzb (jV rfl (oO (?_:t8 (says S l).isNone _ _))))))
   cases e:says S l with
   | none=>exact cT (qK (c:=none) rfl SY hzr (gA (q A _ none (r1 e) (.same rfl))))
   | some b=>exact cF (gA (q A _ none (r2 b e) (.same rfl)))
 ·have hc:as.length<=S.begins.length:=dC λ h=>hc (cM.mpr h)
  refine aU (K.free hc) λ q1 q2=>(Ae rfl K.lock λ v hB=>(cD (λ h0=>?_) λ h0=>?_))
  ·exact gA (q A S (some true) (q1 (hB.elim And.right λ h=>absurd (K.keys v h.1) (by refine ah h0 ?_;decide))) .refl)
  ·refine aU (hB.resolve_left λ h=>h0 h.1) λ h1 h2=>?_
   have hv2:=F.v5.2 v h1
   refine bk (Ff BK) (vE ?_)
   have hd:∀l,l=v\/l=-v->-1000<=l/\l<=1000:=λ l hl=>NV hv2 hl
   refine .mk (λ V=>?_) λ V=>?_
   ·have hl:=hd v (.inl rfl)
    refine aU (rest _ hl (q2 v h1 h2 _ (.inl rfl))) λ r1 r2=>(bk (wY mo) (jq (lZ hzb (jV rfl (oO (?_:t8 (says S v).isNone _ _))))))
    cases e:says S v with
    | none=>exact cT (qK (c:=none) rfl hl hzr (gA (q A _ none (r1 e) (.same rfl))))
    | some b=>exact cF (gA (q A _ none (r2 b e) (.same rfl)))
   ·have hl:=hd (-v) (.inr rfl)
    refine aU (rest _ hl (q2 v h1 h2 _ (.inr rfl))) λ r1 r2=>(bk (wY mo) (jq (lZ hzb (jV rfl (oO (?_:t8 (says S (-v)).isNone _ _))))))
    cases e:says S (-v) with
    | none=>exact cT (qK (c:=none) rfl hl hzr (gA (q A _ none (r1 e) (.same rfl))))
    | some b=>exact cF (gA (q A _ none (r2 b e) (.same rfl)))
end
end
section
section
variable{prog:Program}{w:nD}{M:AW}{A:dY}{E:Value->aE->Prop}{R:rh->aE->Prop}{h:fT}{g:Array xX}{d:GL}{t:Nat}{os:rS}
variable{nm q:Str}{C N:Addr}{bs bm:List Value}{RJ:Bool}{sn:List Str}{sub:List Value}{ab:Bool}{RU:Option Bool}{dd:Option Addr}{k0 k1 k2 k3 k5:Option Value}{Bn newId UN:String}{Ue:List Value}{rest:List Value}
theorem kc{b:Bool}(hb:bm.contains (.type X)=b):(bA C::bm).contains (.type X)=b:=by rw [jP,hb];rfl
theorem vr(Fn:rU Bn newId UN Ue)(hB:bm.contains (.type Bn)=true){Q:Unit->aE->Prop}(hC:h.get? C=some (eX nm q C N bs bm RJ sn sub ab RU dd k0 k1 k2 k3 k5 newId))
  (hq:Q () ⟨h,g,d,t,os⟩):br M A (mV newId ⟨.ref C::rest,[]⟩) Q E ⟨h,g,d,t,os⟩:=by
 have Ve:=kc (C:=C) hB
 have TZ:=Fn.noStar
 simp only [mV,Fn.newKind,Fn.newSplit,Fn.newRow]
 repeat (first | refine db hC ?_ | (refine fJ hC ?_;rw [Ve]) | refine wpAny_staticBase_exc hC ?_ | refine Mr hC ?_ | simp only [bne_self_eq_false,bX,if_false] | wp_step)
 exact hq
theorem zX(Fn:rU Bn newId UN Ue)(hB:bm.contains (.type Bn)=true)(hA:bm.contains (.type "AttributeError")=false)(hN:bm.contains (.type "NameError")=false)(hC:h.get? C=some (eX nm q C N bs bm RJ sn sub ab RU dd k0 k1 k2 k3 k5 newId))
  (hq:R (.ok (.ret (.ref (h.objs.size+1)))) ⟨(h.push {cls:=.type "tuple",data:=.seq rest.toArray}).push
   {cls:=.ref C,data:=.fields #[.ref h.objs.size,.none,.none,.none,.bool false,.none]},g,d,t,os⟩) (hrest:rest.length<=sizeLine:=by size_fits):
  ij (bL prog w) A (.builtin newId ⟨.ref C::rest,[]⟩) R ⟨h,g,d,t,os⟩:=by
 have Xn:=Fn.ends
 have hcB:=kc (C:=C) hB
 have Yn:=kc (C:=C) hA
 have Yk:=kc (C:=C) hN
 refine codeAny_builtinAt Fn.entry ?_
 unfold fM.«BaseException.__new__»
 refine _root_.PySem.wpAt_bind ?_
 show _root_.PySem.wpAt _ _ _ (stack>>=_) _ _ _
 refine _root_.PySem.wpAt_bind (_root_.PySem.wpAt_stack λ p below=>_root_.PySem.wpAt_of_wpAny ?_)
 wp_walk
 refine _root_.PySem.wpAt_of_wpAny ?_
 rw [Fn.owner]
 repeat (first | with_reducible refine wpAny_madeHere_exc Fn.canon hC ?_ | with_reducible refine db hC ?_ | (with_reducible refine fJ hC ?_;first | rw [hcB] | rw [Yn] | rw [Yk]) | wp_step)
 show R _ _
 rw [jQ]
 exact hq
theorem uC{K:Frag}(Fn:rU Bn newId UN Ue)(hB:bm.contains (.type Bn)=true)(hA:bm.contains (.type "AttributeError")=false)(hN:bm.contains (.type "NameError")=false){fI:Addr}{oI:Obj}{Q:Fin->aE->Prop}
  (hC:h.get? C=some (eX nm q C N bs bm RJ sn sub ab RU dd k0 k1 k2 k3 k5 newId)) (X:K.In h) (hi:gu K (.ref C) "__init__"=some (some (.ref fI)))
  (VU:h.get? fI=some oI) (Ud:oI.cls=.type "function")
  (hq:∀h' e,HH h h' e (.ref C) rest->
   br (bL prog w) A (call (.ref fI) (.ref e::rest)) (λ r s' =>r=.none/\Q (.done (.ret (.ref e))) s') E ⟨h',g,d,t,os⟩) (hrest:rest.length<=sizeLine:=by size_fits):
  br (bL prog w) A (fM.«type.__call__» ⟨.ref C::rest,[]⟩) Q E ⟨h,g,d,t,os⟩:=by
 repeat (first | with_reducible refine db hC ?_ | with_reducible refine Mr hC ?_ | wp_step)
 refine codeAny_call_builtin_code (AY _ Fn.quiet) (vr Fn hB hC ?_)
 refine zX Fn hB hA hN hC ?_ hrest
 show br _ _ _ _ _ _
 have hk:∀b o,h.get? b=some o->((h.push {cls:=.type "tuple",data:=.seq rest.toArray}).push {cls:=.ref C,data:=.fields #[.ref h.objs.size,.none,.none,.none,.bool false,.none]}).get? b=some o:=λ b o e=>aW _ (aW _ e)
 have YH:=hk _ _ hC
 have Wu:=hk _ _ VU
 have hget:((h.push {cls:=.type "tuple",data:=.seq rest.toArray}).push
   {cls:=.ref C,data:=.fields #[.ref h.objs.size,.none,.none,.none,.bool false,.none]}).get? (h.objs.size+1)=some
   {cls:=.ref C,data:=.fields #[.ref h.objs.size,.none,.none,.none,.bool false,.none]}:=by heap_get
 have hcC:(bA C::bm).contains (.ref C)=true:=by simp
 unfold isInstance
 repeat (first | with_reducible refine db hget ?_ | (with_reducible refine fJ YH ?_;rw [hcC]) | wp_step)
 show br _ _ (xK (.ref C) _) _ _ _
 refine xT (DS (X.keeps hk) hi) ?_
 refine bR (ax ?_)
 unfold Qr
 refine ax (nu (T:="function") ⟨_,Wu,Ud⟩ ?_)
 rw [if_pos (by decide)]
 refine aZ (ax (cz (hq _ (h.objs.size+1) ⟨hk,m8 (dR _),h.objs.size,hget,m8 (az _),?_⟩) (λ r s' hr=>?_) λ _ _ x=>x))
 ·exact aW _ (kr rfl rfl)
 ·obtain ⟨rfl,hQ⟩:=hr
  wp_walk
  exact hQ
theorem IV{K:Frag}(Fn:rU Bn newId UN Ue)(hB:bm.contains (.type Bn)=true)(hA:bm.contains (.type "AttributeError")=false)(hN:bm.contains (.type "NameError")=false){fI:Addr}{oI:Obj}{Q:Value->aE->Prop}
  (hC:h.get? C=some (eX nm q C N bs bm RJ sn sub ab RU dd k0 k1 k2 k3 k5 newId)) (X:K.In h) (hi:gu K (.ref C) "__init__"=some (some (.ref fI)))
  (VU:h.get? fI=some oI) (Ud:oI.cls=.type "function")
  (hq:∀h' e,HH h h' e (.ref C) rest->
   br (bL prog w) (A.under (.builtin "type.__call__" ⟨.ref C::rest,[]⟩)) (call (.ref fI) (.ref e::rest)) (λ r s' =>r=.none/\Q (.ref e) s') E ⟨h',g,d,t,os⟩) (hrest:rest.length<=sizeLine:=by size_fits):
  br (bL prog w) A (call (.ref C) rest) Q E ⟨h,g,d,t,os⟩:=by
 have f1:=tc_lookup
 have f2:=tc_bind (.ref C)
 have hT:(⟨h,g,d,t,os⟩:aE).TypeIs (.ref C) "type":=⟨_,hC,rfl⟩
 refine kR (vW ?_)
 show br _ _ (Qe (.ref C) _) _ _ _
 repeat (any_goals (first | assumption | with_reducible refine db hC ?_ | wp_step))
 refine ⟨rfl,?_⟩
 refine codeAny_call_builtin_at (AY _ (by decide+kernel)) entry_typeCall (wpAny_check_type_call_sub hC (uC (hrest:=hrest) Fn hB hA hN hC X hi VU Ud λ h' e hm=>?_))
 exact hq h' e hm
end
end
section
theorem IF{K:Frag}:Qf K "__init__" [.type "Exception",.type "BaseException",.type "object"]=some (some (.builtin "Exception.__init__")):=by kernel_rfl
theorem FA:xJ (.builtin "Exception.__init__")=dG (.type "wrapper_descriptor"):=by rw [show xJ (.builtin "Exception.__init__")=builtinType "Exception.__init__" from rfl,builtinType_eq_fast];kernel_rfl
theorem pa:Slot "wrapper_descriptor" "__get__" "wrapper_descriptor.__get__":=.of (owner:="wrapper_descriptor") (n:="__get__") (by rw [typeLookup_type,builtinLookup_eq_fast];kernel_rfl) (by decide+kernel) (by decide+kernel) (by decide+kernel)
 (by first | exact .inl (by decide+kernel) | exact .inr (by decide+kernel)) (by rw [isSubtype_type];kernel_rfl)
theorem tA:entryFor table "wrapper_descriptor.__get__"=some fM.«wrapper_descriptor.__get__»:=Mx (by kernel_rfl)
theorem w8(a b c:Value):JA "wrapper_descriptor.__get__" ⟨[a,b,c],[]⟩:=by unfold JA;kernel_rfl
section
variable{prog:Program}{w:nD}{M:AW}{A:dY}{E:Value->aE->Prop}{R:rh->aE->Prop}{h:fT}{g:Array xX}{d:GL}{t:Nat}{os:rS}
variable{nm q:Str}{C N:Addr}{bs bm:List Value}{RJ:Bool}{sn:List Str}{sub:List Value}{ab:Bool}{RU:Option Bool}{dd:Option Addr}{k0 k1 k2 k3 k5:Option Value}{Bn newId UN:String}{Ue:List Value}{rest:List Value}
theorem ww{so D x:Addr}{ox:Obj}{id B:String}{l₀ l:List Value}{K:Frag}{name:Str}{tk:Tok}{Q:DY->aE->Prop}
  (TO:h.get? so=some {cls:=.type "super",dict:=none,data:=.fields #[.ref D,.ref x,.ref C],slots:=#[]}) (hno:Qv (bL prog w) h (Mv (.ref C)) none)
  (hC:Qv (bL prog w) h (mroOf (.ref C)) l₀) (hl:(l₀.dropWhile (· !=.ref D)).drop 1=l) (X:K.In h)
  (hf:Qf K name l=some (some (.builtin id))) (Ud:xJ (.builtin id)=dG (.type "wrapper_descriptor")) (hxC:x≠C) (hn:(name==("__class__":Str))=false)
  (V3:h.get? C=some (eX nm q C N bs bm RJ sn sub ab RU dd k0 k1 k2 k3 k5 newId)) (hB:bm.contains (.type B)=true) (hx:h.get? x=some ox) (VD:ox.cls=.ref C) (VS:".".intercalate (id.cutAt '.').dropLast=B)
  (hq:Q (.done (.ret (.ref h.objs.size))) ⟨h.push {cls:=.type "method-wrapper",data:=.fields #[.builtin id,.ref x]},g,d,t,os⟩):
  br (bL prog w) A (fM.«super.__getattribute__» ⟨[.ref so,.str name tk],[]⟩) Q E ⟨h,g,d,t,os⟩:=by
 have hlk:=pa.lookup
 have hne:(bA x==bA C)=false:=by simp [hxC]
 have hTf:(⟨h,g,d,t,os⟩:aE).TypeIs (.builtin id) "wrapper_descriptor":=Ud
 have hdt:({cls:=.type "super",dict:=none,data:=.fields #[.ref D,.ref x,.ref C],slots:=#[]}:Obj).data=.fields #[.ref D,.ref x,.ref C]:=rfl
 have f0:(#[.ref D,.ref x,.ref C]:Array Value)[0]? =some (.ref D):=rfl
 have f1:(#[.ref D,.ref x,.ref C]:Array Value)[1]? =some (.ref x):=rfl
 have f2:(#[.ref D,.ref x,.ref C]:Array Value)[2]? =some (.ref C):=rfl
 unfold fM.«super.__getattribute__»
 repeat (first
  | (with_reducible refine GB TO hdt f0 ?_) | (with_reducible refine GB TO hdt f1 ?_) | (with_reducible refine GB TO hdt f2 ?_)
  | (with_reducible refine ks_wpAny_notOpaque hno ?_)
  | (with_reducible refine xT hC ?_;rw [hl])
  | (refine ks_forIn_along X (λ _ _=>rfl) rfl ?_ hf)
  | (with_reducible refine nu hTf ?_)
  | (with_reducible refine Mu pa hTf tA ?_ (w8 _ _ _))
  | (simp only [hn,hne,Bool.or_false,bX,if_false])
  | wp_step
  | dsimp only)
 rw [VS,VD]
 refine fJ V3 ?_
 rw [kc hB]
 unfold newFields
 repeat (first | (with_reducible refine JM ?_ (by size_fits)) | (with_reducible refine ⟨_,rfl,?_⟩) | wp_step)
 exact hq
theorem nV{so D x:Addr}{ox:Obj}{id B:String}{l₀ l:List Value}{K:Frag}{name:Str}{pl:Sem Bool}{Q:Value×List Value->aE->Prop}
  (TO:h.get? so=some {cls:=.type "super",dict:=none,data:=.fields #[.ref D,.ref x,.ref C],slots:=#[]}) (hno:Qv (bL prog w) h (Mv (.ref C)) none)
  (hC:Qv (bL prog w) h (mroOf (.ref C)) l₀) (hl:(l₀.dropWhile (· !=.ref D)).drop 1=l) (X:K.In h)
  (hf:Qf K name l=some (some (.builtin id))) (Ud:xJ (.builtin id)=dG (.type "wrapper_descriptor")) (hxC:x≠C) (hn:(name==("__class__":Str))=false)
  (V3:h.get? C=some (eX nm q C N bs bm RJ sn sub ab RU dd k0 k1 k2 k3 k5 newId)) (hB:bm.contains (.type B)=true) (hx:h.get? x=some ox) (VD:ox.cls=.ref C) (VS:".".intercalate (id.cutAt '.').dropLast=B)
  (hq:Q (.ref h.objs.size,[]) ⟨h.push {cls:=.type "method-wrapper",data:=.fields #[.builtin id,.ref x]},g,d,t+1,os⟩):
  br (bL prog w) A (kx (.ref so) name pl) Q E ⟨h,g,d,t,os⟩:=by
 have hlk:=qa.lookup
 have Wy:=F.ks_canon_super_ga
 have hT:∀t',(⟨h,g,d,t',os⟩:aE).TypeIs (.ref so) "super":=λ _=>⟨_,TO,rfl⟩
 unfold kx
 refine ax (M6 (hT _) hlk ?_)
 show br _ _ (if (Qu "super.__getattribute__" !="object.__getattribute__")=true then _ else _) _ _ _
 rw [if_pos Wy]
 unfold rO getAttrBy
 refine ax (ax (wpAny_mkText (bR (ax (nu (hT _) (ax (GA hlk ?_)))))))
 show br _ _ (M9 (.ref so) (.str name t) (.type "super") (.builtin "super.__getattribute__") true false) _ _ _
 unfold M9 hookBefore callGetattribute boundAndCalled
 refine ax (GA (show (if onTheHeap (.type "super") then xK (.type "super") "__getattr__" else dG none)=dG none from rfl) ?_)
 refine ax (wpAny_attempt (bR ?_))
 show br _ _ (Qr (.builtin "super.__getattribute__") (.ref so)>>=_) _ _ _
 refine ax (GA (qa.bind _) ?_)
 refine cz (Q:=λ v s' =>v=.ref h.objs.size/\s' =⟨h.push {cls:=.type "method-wrapper",data:=.fields #[.builtin id,.ref x]},g,d,t+1,os⟩) (E:=λ _ _=>False)
  (Mu qa (hT _) F.ks_entry_super_ga (ww TO hno hC hl X hf Ud hxC hn V3 hB hx VD VS ⟨_,rfl,rfl,rfl⟩) (F.ks_gaArgs_super _ _)) (λ v s' hv=>?_) λ _ _ z=>z.elim
 obtain ⟨rfl,rfl⟩:=hv
 exact aZ (aZ hq)
end
end
section
section
variable{prog:Program}{w:nD}{M:AW}{A:dY}{E:Value->aE->Prop}{R:rh->aE->Prop}{h:fT}{g:Array xX}{d:GL}{t:Nat}{os:rS}
variable{nm q:Str}{C N:Addr}{bs bm:List Value}{RJ:Bool}{sn:List Str}{sub:List Value}{ab:Bool}{RU:Option Bool}{dd:Option Addr}{k0 k1 k2 k3 k5:Option Value}{B newId Rr:String}{Ue:List Value}{rest:List Value}
theorem zQ{e t0:Addr}{v:Value}{Q:DY->aE->Prop}(he:h.get? e=some {cls:=.ref C,data:=.fields #[.ref t0,.none,.none,.none,.bool false,.none]})
  (hq:∀h',(∀b o,b≠e->h.get? b=some o->h'.get? b=some o)->h'.get? e=some {cls:=.ref C,data:=.fields #[.ref h.objs.size,.none,.none,.none,.bool false,.none]}->h'.get? h.objs.size=some {cls:=.type "tuple",data:=.seq #[v]}->Q (.done (.ret .none)) ⟨h',g,d,t,os⟩):
  br (bL prog w) A (fM.«BaseException.__init__» ⟨[.ref e,v],[]⟩) Q E ⟨h,g,d,t,os⟩:=by
 wp_walk
 refine hq _ (λ b o hb ho=>?_) ?_ ?_
 ·rw [we _ _ (gk hb)]
  exact aW _ ho
 ·rw [mQ _ (aW _ he) rfl]
  rfl
 ·rw [we _ _ (bu (bz he))]
  exact kr rfl rfl
theorem pN{e:Addr}{oe:Obj}{v:Value}{Q:Unit->aE->Prop}(F:Qi B newId' Rr)(hC:h.get? C=some (eX nm q C N bs bm RJ sn sub ab RU dd k0 k1 k2 k3 k5 newId))(he:h.get? e=some oe)(Wx:oe.cls=.ref C)(hq:Q () ⟨h,g,d,t,os⟩):
  br M A (xP Rr ⟨[.ref e,v],[]⟩) Q E ⟨h,g,d,t,os⟩:=by
 have k1:=F.initKind
 have k2:=F.initRow
 have WF:=F.noStar
 delta xP
 rw [k2]
 dsimp only
 rw [k1]
 dsimp only
 repeat (first | (with_reducible refine db he ?_;rw [Wx]) | with_reducible refine db hC ?_ | wp_step)
 exact hq
theorem xo{e t0 q' :Addr}{v:Value}(F:Qi B newId' Rr)(hC:h.get? C=some (eX nm q C N bs bm RJ sn sub ab RU dd k0 k1 k2 k3 k5 newId))(hb:h.get? q' =some {cls:=.type "method-wrapper",data:=.fields #[.builtin Rr,.ref e]})(he:h.get? e=some {cls:=.ref C,data:=.fields #[.ref t0,.none,.none,.none,.bool false,.none]})
  (hq:∀h',(∀b o,b≠e->h.get? b=some o->h'.get? b=some o)->h'.get? e=some {cls:=.ref C,data:=.fields #[.ref h.objs.size,.none,.none,.none,.bool false,.none]}->h'.get? h.objs.size=some {cls:=.type "tuple",data:=.seq #[v]}->R (.ok (.ret .none)) ⟨h',g,d,t,os⟩):
  ij (bL prog w) A (.call (.ref q') ⟨[v],[]⟩) R ⟨h,g,d,t,os⟩:=by
 refine vW ?_
 show br _ A.in1 (Qe (.ref q') _) _ _ _
 unfold Qe
 refine ax (wpAny_load hb ?_)
 show br _ _ (xP Rr ⟨[.ref e,v],[]⟩>>=λ V=>again (.builtin Rr ⟨[.ref e,v],[]⟩)) _ _ _
 refine ax (pN F hC he rfl ?_)
 refine aZ ⟨AD F.init.plain _,vX F.initEntry ?_⟩
 ·refine cz (zQ he λ h' a b c=>?_) (λ V V x=>x) λ V V x=>x
  exact hq h' a b c
end
end
section
open Builtin Builtin.ObjectAttr
section
variable{prog:Program}{w:nD}{M:AW}{A:dY}{E:Value->aE->Prop}{R:rh->aE->Prop}{h:fT}{g:Array xX}{d:GL}{t:Nat}{os:rS}
variable{nm q:Str}{C D N x:Addr}{bs bm:List Value}{RJ:Bool}{sn:List Str}{sub:List Value}{ab:Bool}{RU:Option Bool}{dd:Option Addr}{k0 k1 k2 k3 k5:Option Value}{B newId Rr sa owner:String}{Ue:List Value}{name:Str}{v:Value}
theorem rt{K:Frag}{tk:Tok}{o:Obj}{Q:DY->aE->Prop}(SF:JC B bm sa owner)(X:K.In h)
  (hC:h.get? C=some (eX nm q C N bs (.ref D::bm) true sn sub ab RU dd k0 k1 k2 k3 k5 newId)) (hna:gu K (.ref C) name=some none)
  (hx:h.get? x=some o) (hc:o.cls=.ref C) (Uv:∀c,o.data≠ .cls c) (VY:o.dict=none)
  (hq:∀h' Ss dx,h'.get? x=some {o with dict:=some dx}->(∀b ob,b≠x->h.get? b=some ob->h'.get? b=some ob)->Q (.done (.ret .none)) ⟨h',g,d,Ss,os⟩):
  br (bL prog w) A (fM.«object.__setattr__» ⟨[.ref x,.str name tk,v],[]⟩) Q E ⟨h,g,d,t,os⟩:=by
 have Vd:=SF.passes (.ref x)
 have hl:=DS (M:=bL prog w) X hna
 unfold fM.«object.__setattr__»
 repeat (first | rw [refuse_eq] | (rw [OC,OC,Vd]) | (with_reducible refine db hx ?_;rw [hc]) | with_reducible refine wpAny_mroOf_exc hC ?_ | (with_reducible refine xT hl ?_) | wp_step)
 rw [VY,if_neg (by simp [typeHasDict])]
 split
 ·rename_i Rz
  cases Rz
 split
 ·rename_i c Rz
  exact absurd Rz (Uv c)
 ·have TY:(h.push {cls:=.type "dict",data:=.dict #[]}).get? x=some o:=aW _ hx
  have hxs:x≠h.objs.size:=bu (bz hx)
  refine ax (wpAny_alloc' ?_)
  refine ax (wpAny_update' TY ?_)
  refine aZ ?_
  have hgd:((h.push {cls:=.type "dict",data:=.dict #[]}).update x λ o=>{cls:=o.cls,dict:=some h.objs.size,data:=o.data,slots:=o.slots}).get? h.objs.size
    =some {cls:=.type "dict",data:=.dict #[]}:=
   (gI _ _ _ _ hxs.symm).trans (kr rfl rfl)
  have hnd:((h.push {cls:=.type "dict",data:=.dict #[]}).update x λ o=>{cls:=o.cls,dict:=some h.objs.size,data:=o.data,slots:=o.slots}).Ns h.objs.size (λ _=>none):=
   ⟨_,#[],_,hgd,rfl,λ e he=>absurd he (by simp),λ _=>rfl⟩
  show br _ _ (storeInDict h.objs.size (.str name tk) name v) _ _ _
  unfold storeInDict newKeyGuard
  refine ax (aZ (ax (wpAny_nsSet1 (Qx hnd) λ h' hn' hs=>?_)))
  obtain ⟨oD,Zr,Zv,XX,Yj,Ym⟩:=hn'.count (Within.cons name v Within.nil)
  refine ax (wpAny_lookBehind XX (by rw [Yj];exact pastItsLine_dict (ac Ym (by rw [bF,fR,cB];lia))) ?_)
  wp_walk
  refine hq h' _ h.objs.size ?_ (λ b ob Yo hb=>(hs.2 b (bu (bz hb))).trans ((gI _ _ _ _ Yo).trans (aW _ hb)))
  refine (hs.2 x hxs).trans (mQ _ TY ?_)
  have hfr:=(Heap.get?_some_iff.mp hx).2
  obtain ⟨oc,od,Xv,Um⟩:=o
  cases Xv<;>first | rfl | exact hfr
theorem xm{o:Obj}{SD:Value}{Q:Unit->aE->Prop}(SF:JC B bm sa owner)
  (hC:h.get? C=some (eX nm q C N bs (.ref D::bm) true sn sub ab RU dd k0 k1 k2 k3 k5 newId)) (hx:h.get? x=some o) (hc:o.cls=.ref C) (hq:Q () ⟨h,g,d,t,os⟩):
  br M A (mV sa ⟨[.ref x,SD,v],[]⟩) Q E ⟨h,g,d,t,os⟩:=by
 have hcB:(bA C:: .ref D::bm).contains (.type owner)=true:=by rw [jP,jP,SF.hasOwner,wg,wg]
 have ha:=SF.args (.ref x) SD v
 simp only [mV,SF.kind,SF.split]
 refine ax ?_
 unfold isInstance
 repeat (first | (with_reducible refine db hx ?_;rw [hc]) | (with_reducible refine fJ hC ?_;rw [hcB]) | wp_step)
 cases hsig:Qs sa with
 | none=>exact aZ hq
 | some WM=>
  simp only [JA,hsig] at ha
  have h2:HJ sa WM ⟨[.ref x,SD,v],[]⟩=dG ():=ha
  show br M A (HJ sa WM ⟨[.ref x,SD,v],[]⟩) Q E _
  rw [h2];exact aZ hq
theorem sS{K:Frag}{o:Obj}{Q:Unit->aE->Prop}(SF:JC B bm sa owner)(X:K.In h)
  (hC:h.get? C=some (eX nm q C N bs (.ref D::bm) true sn sub ab RU dd k0 k1 k2 k3 k5 newId)) (XS:gu K (.ref C) "__setattr__"=some (some (.builtin sa))) (hna:gu K (.ref C) name=some none)
  (hx:h.get? x=some o) (hc:o.cls=.ref C) (Uv:∀c,o.data≠ .cls c) (VY:o.dict=none)
  (hq:∀h' Ss dx,h'.get? x=some {o with dict:=some dx}->(∀b ob,b≠x->h.get? b=some ob->h'.get? b=some ob)->Q () ⟨h',g,d,Ss,os⟩):
  br (bL prog w) A (P6 (.ref x) name v) Q E ⟨h,g,d,t,os⟩:=by
 have f3:=SF.slot.bind (.ref x)
 have hl:=DS (M:=bL prog w) X XS
 unfold P6 callSpecial? specialOf
 repeat (any_goals (first | assumption | (with_reducible refine db hx ?_;rw [hc]) | (with_reducible refine xT hl ?_) | wp_step))
 refine codeAny_call_builtin SF.slot.plain SF.entry (xm SF hC hx hc (rt SF X hC hna hx hc Uv VY λ h' Ss dx e k=>?_))
 repeat (any_goals (first | assumption | wp_step))
 exact hq h' Ss dx e k
end
end
section
section
variable{A:dY}{R:rh->aE->Prop}{h h₀:fT}{g:Array xX}{d:GL}{t:Nat}{os:rS}{X:Sx}{e t0:Addr}{v:Value}
theorem Cv(p:fB):gu (KK p) (.ref 53) "what"=some none:=by kernel_rfl
theorem IB(p:fB):gu (KK p) (.ref 53) "__setattr__"=some (some (.builtin "object.__setattr__")):=by kernel_rfl
theorem Cw(p:fB):gu (KK p) (.ref 53) "__init__"=some (some (.ref 30)):=by kernel_rfl
theorem u_(G:DN (CX X) h₀)(hk:∀b o,h₀.get? b=some o->h.get? b=some o)(So:A.depth<kY)(hf:(X.prog.main.file==aF "/claim/cut.py")=true)(SA:(X.prog.main.scope.names.lookup ("super":Str)).isSome=false)
  (he:h.get? e=some {cls:=.ref 53,data:=.fields #[.ref t0,.none,.none,.none,.bool false,.none]}) (hn:h₀.get? e=none)
  (hq:∀h' tk t1 dx,(∀b o,b≠e->h.get? b=some o->h'.get? b=some o)->h'.get? e=some {cls:=.ref 53,dict:=some dx,data:=.fields #[.ref t1,.none,.none,.none,.bool false,.none]}->h.get? t1=none->h'.get? t1=some {cls:=.type "tuple",data:=.seq #[v]}->
   R (.ok (.ret .none)) ⟨h',g,d,tk,os⟩):ij (bL X.prog X.w) A (.call (.ref 30) ⟨[.ref e,v],[]⟩) R ⟨h,g,d,t,os⟩:=by
 have X0:(KK X.w.params).In h:=G.X.keeps hk
 refine ks_codeAny_call_defAt (binds:=[("self",.ref e),("what",v)]) So (X0 30 _ rfl) rfl (G.T.nolimit.keeps hk) (rg X0 (by kernel_rfl)) rfl (iF rfl) ?_ ?_ (λ QC hns Rj=>?_)
 ·decide
 ·intro y hy
  rcases aL.mp hy with rfl | hy
  ·rfl
  ·rcases aL.mp hy with rfl | hy
   ·rfl
   ·cases hy
 have SC:=X0.keeps Rj
 have k1:∀b o,h₀.get? b=some o->QC.get? b=some o:=λ b o q=>Rj _ _ (hk _ _ q)
 have Tk:=Rj _ _ he
 refine Ju (Mw (Jv (pl:=dG false) ?_ (by with_unfolding_all rfl)) rfl rfl)
 refine ks_wpAt_super_base (f:=30) (cc:=29) rfl rfl (by decide+kernel) rfl (SC 30 _ rfl) rfl rfl rfl (SC 29 _ rfl) rfl rfl hf SA ?_
 refine ks_loadName_global rfl rfl (iz (G.T.g.keeps k1) (rc G.X G.T.g (by kernel_rfl)) (G.T.b.keeps k1) ((G.T.builtins _ (by decide+kernel)).trans (by kernel_rfl)) ⟨rfl,?_⟩)
 refine Hr rfl rfl rfl ⟨_,SC 18 _ rfl,rfl⟩ ?_
 refine fq rfl rfl hns rfl ?_
 refine ks_wpAny_isType_cls (SC 40 _ rfl) rfl ⟨rfl,?_⟩
 refine ks_wpAny_call_super (SC 40 _ rfl) rfl Tk rfl (λ c q=>nomatch q) (looks_mroIn SC (by kernel_rfl)) (λ QP TO Uy=>?_)
 have X2:=SC.keeps Uy
 have TT:=Uy _ _ Tk
 have hse:QC.objs.size≠e:=λ q=>absurd (bz Tk) (by rw [<-q];exact bP _)
 have hxC:e≠53:=λ q=>by
  have z:=X2 53 _ rfl
  rw [<-q,TT] at z
  cases z
 refine nV (B:="Exception") (C:=53) (D:=40) (l₀:=[.ref 53,.ref 40,.type "Exception",.type "BaseException",.type "object"]) TO (looks_opaque X2 rfl) (λ A Q E s k q=>ax ((looks_clsIn X2 rfl) A _ E s k (aZ q))) rfl X2 IF FA hxC (by decide+kernel) (X2 53 _ rfl) (by decide) TT rfl (by decide+kernel) ?_
 generalize hh3:QP.push {cls:=.type "method-wrapper",data:=.fields #[.builtin "Exception.__init__",.ref e]}=Q_
 have k3:∀b o,QP.get? b=some o->Q_.get? b=some o:=λ b o q=>by rw [<-hh3];exact aW _ q
 have hq3:Q_.get? QP.objs.size=some {cls:=.type "method-wrapper",data:=.fields #[.builtin "Exception.__init__",.ref e]}:=by rw [<-hh3];exact kr rfl rfl
 refine GD (P:=λ h=>h.get? QP.objs.size=some {cls:=.type "method-wrapper",data:=.fields #[.builtin "Exception.__init__",.ref e]}) rfl (λ h q=>⟨.machine,.inr (.inl rfl),(Looks.ld (part:=none) q).andThen .now⟩) (OI (rM (kU (fq rfl rfl ((hns.keeps Uy).keeps k3) rfl (rL ⟨hq3,?_⟩)))))
 refine kR (xo F.excBase_Exception.toExcCallFacts ((X2.keeps k3) 53 _ rfl) hq3 (k3 _ _ TT) λ Rq k4 Yh XN=>?_)
 refine _root_.PySem.wpAt_of_wpAny ?_
 have hLe:h.objs.size≠e:=λ q=>absurd (bz he) (by rw [<-q];exact bP _)
 have hns4:Rq.Ns h.objs.size (λ x=>y5 x [(aF "self",bA e),(aF "what",v)].reverse):=by
  obtain ⟨o,es,ep,a,b⟩:=(hns.keeps Uy).keeps k3
  exact ⟨o,es,ep,k4 _ _ hLe a,b⟩
 have k04:∀b o,b≠e->h.get? b=some o->Rq.get? b=some o:=λ b o hb q=>k4 b o hb (k3 _ _ (Uy _ _ (Rj _ _ q)))
 have X4:(KK X.w.params).In Rq:=G.X.keeps λ b o q=>k04 b o (λ z=>by rw [z,hn] at q;cases q) (hk _ _ q)
 refine gT ?_
 refine sL ?_ (by with_unfolding_all rfl)
 refine kU (fq rfl rfl hns4 rfl ?_)
 refine kU (fq rfl rfl hns4 rfl ?_)
 refine sS (o:={cls:=.ref 53,data:=.fields #[.ref Q_.objs.size,.none,.none,.none,.bool false,.none]}) F.store_Exception X4 (X4 53 _ rfl) (IB _) (Cv _) Yh rfl (λ c q=>nomatch q) rfl λ Sj tk dx Yg k5=>?_
 refine vU ?_
 have htn:h.get? Q_.objs.size=none:=by
  cases z:h.get? Q_.objs.size with
  | none=>rfl
  | some o=>exact absurd (bz (k3 _ _ (Uy _ _ (Rj _ _ z)))) (bP _)
 have hte:Q_.objs.size≠e:=λ q=>by rw [q,he] at htn;cases htn
 exact hq Sj tk Q_.objs.size dx (λ b o hb q=>k5 b o hb (k04 b o hb q)) Yg htn (k5 _ _ hte XN)
end
end
section
section
variable{M:AW}{A:dY}{E:Value->aE->Prop}{s:aE}{env:Env}
variable{nm q:Str}{C N:Addr}{bs bm:List Value}{RJ:Bool}{sn:List Str}{sub:List Value}{ab:Bool}{RU:Option Bool}{dd:Option Addr}{k0 k1 k2 k3 k5:Option Value}{newId:String}
inductive Hl(C N:Addr)(bm:List Value)(newId:String)(o:Obj):Prop where
 | mk (nm q:Str) (bs:List Value) (sn:List Str) (sub:List Value) (ab:Bool) (RU:Option Bool) (dd:Option Addr) (k0 k1 k2 k3 k5:Option Value) (e:o=eX nm q C N bs bm true sn sub ab RU dd k0 k1 k2 k3 k5 newId)
theorem uO{oC:Obj}{x:Sem Value}{Q:fH->aE->Prop}(hoC:Hl C N bm newId oC)(Tl:bm.contains (.type "BaseException")=true)(hh:A.handled=none)
  (h:br M A x (λ v s₁=>∃e t dx,v=.ref e/\s₁.heap.get? C=some oC/\
   s₁.heap.get? e=some {cls:=.ref C,dict:=some dx,data:=.fields #[.ref t,.none,.none,.none,.bool false,.none]}/\E (.ref e) s₁) E s):
  br M A (raiseStmt env (some x) none) Q E s:=by
 obtain ⟨nm,q,bs,sn,sub,ab,RU,dd,k0,k1,k2,k3,k5,rfl⟩:=hoC
 have hcB:(bA C::bm).contains (.type "BaseException")=true:=by rw [jP,Tl,wg]
 unfold raiseStmt
 refine ax (cz h (λ v s₁ QC=>?_) λ _ _ x=>x)
 obtain ⟨e,t,dx,rfl,hC,he,hE⟩:=QC
 obtain ⟨hp,g,d,tk,os⟩:=s₁
 repeat (first | with_reducible refine db he ?_ | with_reducible refine db hC ?_ | (with_reducible refine fJ hC ?_;rw [hcB]) | wp_step)
 exact wpAny_raiseNew_none hh hE
end
theorem Oh(p:fB):∃o,(KK p).lookup 53=some o/\Hl 53 52 [.ref 40,.type "Exception",.type "BaseException",.type "object"] "Exception.__new__" o:=⟨_,rfl,_,_,_,_,_,_,_,_,_,_,_,_,_,rfl⟩
theorem wR:∀n,n<=16->((GG++(OA (wd n):String))++aF " conflicts").length<=sizeLine/\(GG++(OA (wd n):String):Str).length<=sizeLine:=by decide+kernel
theorem H7{G:Gx}{A:Ad}{S:SS}{E:List (Addr×aT)}{m:dZ}{Q:SQ}{p1 p2 p3 p4 p5 p6 p7 p8:Pos}(hX:Dr G.X)(hn:G.n=n+1)(Uc:G.nm.lookup ("LimitFault":Str)=some .globalImplicit)(hm:m.lookup ("self":Str)=some .me)(h0:0<S.limit)(h1:S.limit<=16)(hx:G.ex (.s A S E)):
  jL G (.Raise (some (.Call (.Name "LimitFault" p1) [.JoinedStr [.FormattedValue (.Attribute (.Name "self" p2) "conflict_limit" p3) (-1) none p4,.Constant (.str " conflicts") 0 p5] p6] [] p7)) none p8) m (.s A S E) Q:=⟨λ F U gf k O Z s W R K=>by
 have hfile:((G.X.prog.main.file:Str)==aF "/claim/cut.py")=true:=by
  have h2:qG (KK G.X.w.params) 118=some (aF "/claim/cut.py"):=rfl
  have:=hX.file
  rw [h2] at this
  rw [<-aO this]
  exact beq_self_eq_true _
 obtain ⟨oC,eC,hoC⟩:=Oh G.X.w.params
 rw [arm_exec_Raise]
 refine ax (d_ (uO (C:=53) (hoC:=hoC) (N:=52) (bm:=[.ref 40,.type "Exception",.type "BaseException",.type "object"]) (newId:="Exception.__new__") (by decide) O.handled ?_))
 refine ax (cz (wpAny_Call_ofName ?_) (λ v s₃ Q_=>ax (d_ (aZ Q_))) λ _ _ x=>x)
 refine dD O.ek (gf.kind _ _ Uc (by decide)) (iO (ah O.eg (O.G.T.g.keeps R.keep)) (JO (v:=.ref 53) O.G.X O.G.T.g (by kernel_rfl)) ?_) (by decide+kernel)
 refine callWith_def (C:=CX G.X) (first:=[]) (by kernel_rfl) (d5 rfl) (rM (wpAny_JoinedStr ?_))
 have hat:sU G (.Name "self" p2) "conflict_limit" p3 m (.s A S E) (λ v z=>v=vi S.limit/\z=.s A S E):=by
  have hme:isMe (.Name "self" p2) m=true:=by
   unfold isMe j7
   simp only [hm]
   rfl
  unfold sU
  rw [hme]
  exact ⟨rfl,rfl⟩
 obtain ⟨n',hl⟩:∃n' :Nat,S.limit=wd n' :=⟨S.limit.toNat,(fy (xV h0)).symm⟩
 have hn16:n' <=16:=by have:=hl▸h1;exact bY.mp this
 obtain ⟨l2,l1⟩:=wR n' hn16
 refine FormattedValue_plain (sN (rW hat gf k O Z s _ R λ v s₁ U1 R₁ w=>?_))
 obtain ⟨QM,QF,U9,rfl⟩:=w
 rw [hl] at U9
 refine iU U9 λ Y6=>?_
 refine formatField_int_small (au (Nat.log2_le_self _) (au hn16 (by decide))) ⟨_,_,rfl,l1,?_⟩
 refine Jo ⟨_,_,rfl,l2,l2,rL ?_⟩
 generalize (GG++(OA (wd n'):String)++aF " conflicts":Str)=txt
 refine ⟨O.G.X.keeps R₁.keep,?_⟩
 obtain ⟨nm,q,bs,sn,sub,ab,RU,dd,j0,j1,j2,j3,j5,rfl⟩:=hoC
 have hC:s₁.heap.get? 53=some _:=(O.G.X.keeps R₁.keep) 53 _ eC
 refine IV (h:=s₁.heap) PySem.F.excBase_Exception (by decide) (by decide) (by decide) hC (O.G.X.keeps R₁.keep) (Cw _) ((O.G.X.keeps R₁.keep) 30 _ rfl) rfl (λ h' e hm=>?_) (show 1<=sizeLine from by decide)
 have kk:∀b o,F.h₀.get? b=some o->h'.get? b=some o:=λ b o q=>hm.keeps _ _ (R₁.keep _ _ q)
 have hne:F.h₀.get? e=none:=by
  cases z:F.h₀.get? e with
  | none=>rfl
  | some o=>have:=R₁.keep _ _ z;rw [hm.new] at this;cases this
 obtain ⟨t0,he,ht0,Y7⟩:=hm.there
 refine kR (u_ O.G kk ?_ hfile hX.top he hne λ QP tk t1 dx k2 TT XQ Wm =>?_)
 ·have w1:∀as,(jB "type.__call__" ⟨.ref 53::as,[]⟩).weight<=1:=λ as=>by
   have:(jB "type.__call__" ⟨.ref 53::as,[]⟩).weight=1:=by first | rfl | kernel_rfl
   exact aC this
  have:=O.depth
  rw [hn] at this
  refine au (aV (w1 _) _) ?_
  exact au (aV (ac (by decide:1<=3) (Nat.le_mul_of_pos_right 3 (eJ n))) _) this
 refine ⟨rfl,e,t1,dx,rfl,k2 _ _ (λ q=>?_) (hm.keeps _ _ hC),TT,?_⟩
 ·rw [q,hm.new] at hC;cases hC
 ·refine gf.rs (h' :=QP) (tk:=tk) (show cj (CX G.X) F Z {s₁ with toks:=s₁.toks+1+1+1} _ U1 from R₁.toks O) QF hx ⟨λ b o q=>k2 b o (λ z=>by rw [z,hm.new] at q;cases q) (hm.keeps _ _ q),hm.new,?_,⟨_,_,TT,rfl,rfl,rfl,rfl⟩,⟨_,_,_,Wm,rfl,rfl⟩⟩
  cases z:s₁.heap.get? t1 with
  | none=>rfl
  | some o=>have:=hm.keeps _ _ z;rw [XQ] at this;cases this⟩
end
section
section
variable{G:Gx}{A A' :Ad}{S S' :SS}{E E' :List (Addr×aT)}{n:Nat}{z:Zs}{Q:VQ}
theorem sF(hl:S.lock=none)(h0:0<=k/\k<=1000)(q:∀v,Q v (.s A (S.sHeats (if (lk S.heats k).isSome then S.heats else ins S.heats k 0)) E)):lA G (.builtin "dict.setdefault") [.ref (A .heats),vi k,vi 0] (.s A S E) Q:=⟨λ F m U (T:St G.me A S U E)=>BF T hl h0 λ v U' T' =>iY T' (q v)⟩
theorem sq(hl:S.lock=none):Ov G (.ref (A .heats)) (.s A S E):=Ff (ja .heats (((ah hl rfl):some (kM S.lock _)=_)) (by intro _ _ h;cases h))
theorem pD(S:SS)(k:Nat):(bT S k).heats=S.heats/\(bT S k).lock=S.lock/\(bT S k).clashes=S.clashes/\(bT S k).log=S.log:=by
 unfold bT
 cases S.begins[k]? with
 | none=>exact gN rfl rfl rfl rfl
 | some b=>
  refine lh (gJ (S.row.length-b) S) λ V V V e=>?_
  dsimp only
  exact ah e (gN rfl rfl rfl rfl)
structure PV(A0:Ad)(RC:SS)(I:SS->Nat->Prop)(Fin:SS->Bool->Prop)(p:Ad×SS×Option Bool×Nat):Prop where
 l:nt A0 RC p.1 p.2.1
 h:(p.2.2.1=none/\∃q,p.2.2.2=q+1/\I p.2.1 q)\/∃b,p.2.2.1=some b/\Fin p.2.1 b
theorem PN{A B:Prop}{t t2:Bool}(ha:t=true->t2=true->A)(hb:B):t8 t (t8 t2 A B) (t8 false A B):=⟨λ h=>⟨λ h2=>ha h h2,λ V=>hb⟩,λ V=>cF hb⟩
inductive Pd(A0:Ad)(RC:SS)(FinX:SS->Prop)(E:List (Addr×aT))(z:Zs):Prop where
 | mk (A:Ad) (S:SS) (e:z=.s A S E) (h:FinX S) (l:nt A0 RC A S)
noncomputable def qM(o:Option Obj):List Stmt:=match o with
 | some ⟨_,_,.func fd,_⟩=>(match fd.body with
  | .stmts b=>b
  | _=>[])
 | _=>[]
noncomputable def oH(o:Option Obj):Scope:=match o with
 | some ⟨_,_,.func fd,_⟩=>fd.scope
 | _=>Qc
noncomputable def Gx.subX(G:Gx)(n:Nat)(nm:List (Str×dM))(ex:Zs->Prop):Gx:=⟨G.X,n,G.me,nm,ex,False⟩
theorem FK{A0:Ad}{S:SS}{I:SS->Nat->Prop}{Fin:SS->Bool->Prop}{FinX:SS->Prop}(hX:Dr G.X)(K:mK as S.clashes I Fin FinX)(ha:(a,.list (as.map vi))∈E)(R:Tr S)(hl:S.lock=none)(har:∀l∈as,-1000<=l/\l<=1000)
  (h0:I (((bT S 0).sBlamed []).sHeats (as.foldl uL S.heats)) k0) (q:∀A' S' b,Fin S' b->nt A0 S A' S' ->Q (.bool b) (.s A' S' E)):(Wk 99 (G.subX (n+3) (oH ((CX G.X).K.lookup 203)).names (Pd A0 S FinX E))).s (qM ((CX G.X).K.lookup 203)) [("self",.me),("assumptions",.v (.ref a))] (.s A0 S E) (Me G Q):=by
 refine mC (k:=0) rfl R λ A1 YL=>(fD (pD S 0) λ b1 b2 b3 b4=>?_)
 replace b2:=hl▸b2
 generalize bT S 0=S₁ at h0 b1 b2 b3 b4
 refine bk (bb _) λ Uh=>vJ (bs:=[]) rfl λ RD YK=>(.mk a (.list (as.map vi)) _ (List (Int×Int)) (λ V=>[("self",.me),("assumptions",.v (.ref a))]) (λ hs=> .s RD ((S₁.sBlamed []).sHeats hs) E) (λ i hs=>hs=(as.take i).foldl uL S.heats) S.heats rfl rfl rfl rfl (zh (congrArg (SS.sHeats (S₁.sBlamed [])) b1)) (λ i hs U V k=>eA ha k) ?_ ?_)
 ·intro i hs v hv e _
  refine aM (eE hv) λ l SI QL=>?_;subst QL
  exact bk (sq b2) (sF b2 (JF (har l (am SI))) λ w=>⟨uL hs l,(ah ba (ah SI (ah gc (dI e rfl)))),rfl,cR⟩)
 ·intro hs e _
  replace e:=aX▸(ae ..)▸e
  subst e
  refine .mk (Ad×SS×Option Bool×Nat) (λ p=>[("self",.me),("assumptions",.v (.ref a)),("begun",.v (vn S.clashes)),("rested",.v (vn S.clashes)),("span",.v (vi 16)),("told",.v (wn p.2.2.1))]) (λ p=> .s p.1 p.2.1 E) (PV A0 S I Fin) (λ p=>p.2.2.2) (RD,(S₁.sBlamed []).sHeats (as.foldl uL S.heats),none,k0+1) ⟨⟨aC (congrArg fh b4.symm),λ i _=>(YK (.logT i) λ e=>nomatch e).trans (YL (.logT i) λ e=>nomatch e)⟩,.inl ⟨rfl,k0,rfl,h0⟩⟩ (by refine (?_:_=_);exact dI b3 rfl) cR ?_
  intro QT QW QY;obtain ⟨A,Ri,told,k⟩:=QT;obtain ⟨L0,J⟩:=QW;obtain ⟨U,ok⟩:=QY
  dsimp only at J L0
  rcases J with ⟨rfl,k,rfl,hI⟩ | ⟨b,rfl,hF⟩
  ·refine is_none (cT ⟨λ hr=>cT ?_,λ hr=>cF ?_⟩)
   ·have hr:Ri.refuted=false:=by cases h:Ri.refuted with
     | true=>replace hr:=h▸hr;exact (jD hr).elim
     | false=>rfl
    refine CD (K.turn Ri k hI (lM ok) hr) λ Js Ms Ps K1 K2 K3 K4=>(CR rfl K1 K2 (λ A5 S5 hJ L5 hse F=>?_) λ A5 S5 i hP L5 F=>?_)
    ·refine fD (K4 S5 hJ F hse) λ q1 q2 q3 q4=>(cD (λ h=>absurd h (by decide)) λ V=>(PN (λ h h2=>?_) ?_))
     ·have z1:=of_decide_eq_true h;have z2:=of_decide_eq_true h2;exact H7 hX rfl rfl rfl z1 (by lia) ⟨A5,S5,rfl,q3 z1 z2,L0.tr L5⟩
     refine cD (λ h=>?_) λ V=>?_
     ·have h:(S5.clashes:Int)-S.clashes>=16:=h
      lia
     refine CV rfl q4 ha F λ A6 S6 o hP L6=>?_
     cases o with
     | none=>
      refine aM hP λ k' hk' TC =>?_;clear hP
      exact ⟨(A6,S6,none,k' +1),⟨⟨(L0.tr L5).tr L6,.inl ⟨rfl,k',rfl,TC⟩⟩,ly hk'⟩,rfl,cR⟩
     | some b=>exact ⟨(A6,S6,some b,0),⟨⟨(L0.tr L5).tr L6,.inr ⟨b,rfl,hP⟩⟩,eJ _⟩,rfl,cR⟩
    ·refine IJ (K3 S5 i hP F) λ L PL r1 r2 r3 r4 r5 r6 r7 r8 r9 Xs=>?_
     refine cD (λ V=>?_) λ h=>absurd (bQ i) h
     refine FM rfl r1 r2 r3 r4 r5 r6 r7 r8 (λ hb A6 V4=>?_) λ hb A6 hs g t d c τ g' V4 p1 p2 p3 p4 p5 p6=>?_
     ·refine aM (r9 hb) λ k' hk' TC =>?_
      exact ⟨(A6,mn (S5.sClashes (S5.clashes+1)),none,k' +1),⟨⟨(L0.tr L5).tr ⟨ac (aB _ _) (aC (av (as:=S5.log) (bs:=[[]])).symm),V4⟩,.inl ⟨rfl,k',rfl,TC⟩⟩,ly hk'⟩,rfl,cR⟩
     ·refine aM (Xs hb _ t d c τ g' p1 ⟨hs,g,p2,rfl⟩ p3 p4 p5 p6) λ k' hk' TC =>?_
      exact ⟨(A6,(jT (S5.lrn hs g) d c τ).sGain g',none,k' +1),⟨⟨(L0.tr L5).tr ⟨ac (aB _ _) (aC ((av (bs:=[c])).symm.trans (congrArg fh (wU (S5.lrn hs g) d c τ).symm))),V4⟩,.inl ⟨rfl,k',rfl,TC⟩⟩,ly hk'⟩,rfl,cR⟩
   ·have hr:Ri.refuted=true:=by cases h:Ri.refuted with
     | true=>rfl
     | false=>replace hr:=h▸hr;exact (ze hr).elim
    refine tz (o:=none) ?_
    exact gA (q A Ri false (K.refd _ _ hI hr) L0)
  ·refine is_bool (cF (cF ?_))
   refine eq_bool (i:=b) ?_
   refine gA ?_
   refine ah (show (b==true)=b from by clear hF ok;cases b<;>rfl) ?_
   exact q A Ri b hF L0
end
end
section
section
variable{G:Gx}{A A' :Ad}{S S' :SS}{E E' :List (Addr×aT)}{n:Nat}{z:Zs}{Q:VQ}
noncomputable def HQ:Value->Bool
 | .bool b=>b
 | _=>false
theorem Bg(o:Option Bool):HQ (wn o)=(o==some true):=by cases o with
 | none=>rfl
 | some b=>cases b<;>rfl
theorem Da{c:List Int}(hn:G.n=n+1)(h:(a,.list (c.map λ l=>wn (says S l)))∈E)(q:Q (.bool (c.any λ l=>says S l==some true)) (.s A S E)):lj G (a_ .In) (.bool true) (.ref a) (.s A S E) Q:=
 ⟨λ F m U (T:St G.me A S U E)=>by
  refine ah hn (pA (e:=HQ) (aY (G:=G) h U T) (λ y hy=>?_) ?_)
  ·refine aM (aJ.mp hy) λ l V QI=>?_;subst QI
   cases hs:says S l with
   | none=>exact pE.none_bool true
   | some b=>(try clear hs);cases b<;>exact pE.bools _ _
  ·exact ah lE (ah (show HQ∘(λ l=>wn (says S l))=λ l=>says S l==some true from funext λ l=>Bg _) (iY T q))⟩
inductive Mf(ls:List Int)(E:List (Addr×aT)):Value->List (Addr×aT)->Prop where
 | no (h:¬ls.Pairwise λ x y=>y≠-x):Mf ls E .none E
 | so (h:ls.Pairwise λ x y=>y≠-x) (c:List Int) (D:Addr) (o:t4 ls c):Mf ls E (.ref D) ((D,.tup (c.map vi))::E)
theorem Mf.sub(h:Mf ls E v E'):E.Sublist E' :=by
 cases h with
 | no _=>exact .refl _
 | so _ _ _ _=>exact bM _ _
theorem n5(hn:G.n=n+2)(ha:(a,ao)∈E)(hi:eK ao=some (ls.map vi))(R:Tr S)(hl:S.lock=none)(hz:ls.length<60)(har:∀l∈ls,-1000<=l/\l<=1000)
  (T7:S.log.length<90000) (VC:S.rows.length<90000) (VB:Wz S 80000) (Vl:S.row.length<90000)
  (q1:¬ls.Pairwise (λ x y=>y≠-x)->∀A',Q (.bool (!(fk S ls).refuted)) (.s A' (fk S ls) E))
  (q2:ls.Pairwise (λ x y=>y≠-x)->∀c A',t4 ls c->Q (.bool (!(Dn (fk S ls) c).refuted)) (.s A' (Dn (fk S ls) c) E)):j4 G 123 [.ref G.me,.ref a] (.s A S E) Q:=by
 refine enter hn ["self","literals"] [.me,.v (.ref a)] rfl rfl rfl (λ vs h=>by refine fg (j9 h) λ V V QL=>?_;subst QL;rfl) rfl ?_
 refine mC (k:=0) rfl R λ A1 V=>(fD (pD S 0) λ b1 b2 V b4=>?_)
 have b5:=qQ S 0
 have b6:=pC S 0
 have b7:=n6 S 0
 replace b2:=hl▸b2
 unfold fk at q1 q2
 refine (?_:j4 _ _ _ _ _)
 generalize bT S 0=S₁ at q1 q2 b1 b2 b4 b5 b6 b7
 have ord:∀{G:Gx} {Q:VQ} {n:Nat},G.n=n+1->(∀v E',Mf ls E v E' ->Q v (.s A1 S₁ E'))->j4 G 62 [.ref a] (.s A1 S₁ E) Q:=λ hn k=>oR hn ha hi (bD hz (by decide)) (λ h=>k _ _ (.no h)) λ h c D o=>k _ _ (.so h c D o)
 refine ord rfl λ v Vb hv=>?_
 have hE:=hv.sub
 refine .mk a ao (ls.map vi) (List (Int×Int)) (λ V=>[("self",.me),("literals",.v (.ref a)),("clause",.v v)]) (λ hs=> .s A1 (S₁.sHeats hs) Vb) (λ i hs=>hs=(ls.take i).foldl uL S.heats) S.heats rfl hi rfl rfl (zh (congrArg S₁.sHeats b1)) (λ i hs U V k=>eA (hE.subset ha) k) ?_ ?_
 ·intro i hs v hv e _
  refine aM (eE hv) λ l SI QT=>?_;subst QT
  exact bk (sq b2) (sF b2 (JF (har l (am SI))) λ w=>⟨uL hs l,(ah ba (ah SI (ah gc (dI e rfl)))),rfl,cR⟩)
 intro hs e _
 replace e:=aX▸(ae ..)▸e
 subst e
 refine (?_:E7 _ _ _ _ _ (.s A1 (S₁.sHeats _) Vb))
 generalize hS:S₁.sHeats (ls.foldl uL S.heats)=QU
 have hS' :((S₁.uHeats (ls.foldl uL S.heats)):SS)=QU:=hS
 rw [hS'] at q1 q2
 clear hS'
 have f1:QU.log.length<90000:=dI hS (b4▸T7)
 have f2:QU.rows.length<90000:=dI hS (b5▸VC)
 have f3:Wz QU 80000:=dI hS (λ x=>b6▸VB x)
 have f4:QU.row.length<90000:=dI hS (au b7 Vl)
 clear hS b1 b2 b4 b5 b6 b7
 cases hv with
 | no hp=>exact is_none (cT (cT (lJ (gR hE) λ V=>q1 hp A1)))
 | so hp c D o=>
  have Q2:=λ A' =>q2 hp c A' o
  unfold Dn at Q2
  refine It (cF ⟨λ hr=>cT ?_,λ hr=>?_⟩)
  ·rewrite [if_pos (.inl hr)] at Q2
   exact lJ (gR hE) λ V=>Q2 A1
  have hcl:c.length<=ls.length:=sR o.1 λ x hx=>(o.2.1 x).mp hx
  have hc6:(c.map vi).length<=1000000:=ah (ae ..) (aP (aq (au hcl hz) (ac (az _) (aj _ _))))
  refine .mk D (.tup (c.map vi)) _ Unit (λ V=> .s A1 QU ((D,.tup (c.map vi))::E)) (λ i ys V=>ys=(c.take i).map λ l=>wn (says QU l)) () rfl rfl hc6 rfl cR (λ i ys V U V k=>eA (.head _) k) (λ i ys V w hw hys V=>?_) λ ys V hys V b=>?_
  ·refine aM (eE hw) λ y T8 QW=>?_;subst QW
   exact jV rfl ⟨(),(ah hys (ah ba (ah T8 (ah aD rfl)))),cR⟩
  replace hys:=aX▸(ae ..)▸hys
  subst hys
  refine Da rfl (.head _) ⟨λ hany=>cT ?_,λ hany=>cF ?_⟩
  ·rewrite [if_pos (.inr hany)] at Q2
   exact lJ (gR (hE.cons _)) λ V=>Q2 A1
  rewrite [if_neg (λ h=>h.elim (λ h=>by replace h:=hr▸h;exact (jD h).elim) λ h=>by replace h:=hany▸h;exact (jD h).elim)] at Q2
  refine .mk D (.tup (c.map vi)) _ Unit (λ V=> .s A1 QU ((D,.tup (c.map vi))::E)) (λ i ys V=>ys=((c.take i).filter λ l=>(says QU l).isNone).map vi) () rfl rfl hc6 rfl wx (λ i ys V U V k=>eA (.head _) k) (λ i ys V w hw hys V=>?_) λ ys V hys V b=>?_
  ·refine aM (eE hw) λ y T8 QY=>?_;subst QY
   have htk:c.take (i+1)=c.take i++[y]:=af ba (ah T8 rfl)
   refine jV rfl (oO ⟨λ hs=>⟨(),?_,cR⟩,λ hs=>⟨(),?_,cR⟩⟩)
   ·exact ah hys (ah htk (ah (cN ..) (ah bG (ah hs (ah aD rfl)))))
   ·exact af hys (ah htk (ah (cN ..) (ah bG (ah hs (congrArg _ (dh _).symm)))))
  replace hys:=aX▸(ae ..)▸hys
  have hys:ys=(lP QU c).map vi:=hys
  have hml:∀l∈lP QU c,-1000<=l/\l<=1000:=λ l hl=>har l ((o.2.1 l).mp (bE.mp hl).1)
  have hll:(lP QU c).length<=c.length:=eU _ _
  subst hys
  generalize lP QU c=lf at Q2 hml hll
  have h6:lf.length<=60:=ac (ac hll hcl) (aP hz)
  have h7:(lf.map vi).length=lf.length:=ae ..
  have hm:(b,aT.list (lf.map vi))∈(b,aT.list (lf.map vi))::(D,aT.tup (c.map vi))::E:=.head _
  have hsub:E.Sublist ((b,aT.list (lf.map vi))::(D,aT.tup (c.map vi))::E):=((uh _).cons _).cons _
  refine gp (aY hm) h7 (ac h6 (by decide)) (cD (λ h=>?_) λ h=>?_)
  ·have h:((lf.length:Nat):Int)=0:=h
   clear h6 h7 hll hm hml;cases d7 (gU.mp h)
   exact vt rfl (bD f1 (by decide)) λ A' V=>lJ (gR hsub) λ V=>Q2 A'
  have h:¬((lf.length:Nat):Int)=0:=h
  refine gp (aY hm) h7 (ac h6 (by decide)) (cD (λ h1=>?_) λ h1=>?_)
  ·have h1:((lf.length:Nat):Int)=1:=h1
   clear h h6 h7 hll;refine aS (lD.mp (gU.mp h1)) λ l Rb=>?_;subst Rb
   exact gq (j:=0) (v:=vi l) (aY hm) (aH rfl) rfl (qK (c:=none) rfl (hml l (.head _)) (bD f4 (by decide)) (lJ (gR hsub) λ V=>Q2 A1))
  ·have h1:¬((lf.length:Nat):Int)=1:=h1
   clear h7 hll;refine fg (jO λ e:lf=[]=>h (ah e rfl)) λ l lf Q8=>?_;subst Q8
   clear h;refine fg (jO λ e:lf=[]=>h1 (ah e rfl)) λ k r Rc=>?_;subst Rc
   exact CT rfl hm hml (ac h6 (by decide)) (bD f2 (by decide)) (λ x=>ac (f3 x) (by decide)) λ A' V=>lJ (gR hsub) λ V=>Q2 A'
end
end
section
section
variable{G:Gx}{A A' :Ad}{S S' :SS}{E E' :List (Addr×aT)}{n:Nat}{z:Zs}{Q:VQ}{me ns D:Addr}{o:aT}{attr:Str}{fs:List (Str×Value)}{R:List (Addr×aT)}
noncomputable def Zs.mk(me ns:Addr)(fs:List (Str×Value))(R:List (Addr×aT)):Zs:=.no ((ns,.ns fs)::(me,.inst 220 ns)::R)
inductive M4(attr:Str)(me ns:Addr)(fs:List (Str×Value))(K:List (Str×Value)->List (Addr×aT)->Prop)(R:List (Addr×aT)):Value->Zs->Prop where
 | val (v:Value) (q:K (fs++[(attr,v)]) R):M4 attr me ns fs K R v (.no ((ns,.ns fs)::(me,.inst 220 ns)::R))
 | ob (D:Addr) (o:aT) (q:K (fs++[(attr,.ref D)]) ((D,o)::R)):M4 attr me ns fs K R (.ref D) (.no ((D,o)::(ns,.ns fs)::(me,.inst 220 ns)::R))
 | ob2 (D:Addr) (o:aT) (p:Addr×aT) (q:K (fs++[(attr,.ref D)]) ((D,o)::R)):M4 attr me ns fs K R (.ref D) (.no ((D,o)::p::(ns,.ns fs)::(me,.inst 220 ns)::R))
theorem yy:(p::q::r::R).Perm (q::r::p::R):=(p_ q p _).trans ((p_ r p _).cons q)
theorem mS(hm:m.lookup x=some (.v (.ref me)))(ha:qU.contains attr=true)(h3:nsLook attr fs=none)(h4:fs.length<=900)
  (h:(Wk k G).e e m (.mk me ns fs R) (M4 attr me ns fs (λ fs R=>QS .next m (.mk me ns fs R)) R)):jL G (.Assign [.Attribute (.Name x p) attr p'] e pos) m (.mk me ns fs R) QS:=
 ⟨λ F U g ok=>by
  refine q0 (by (try clear h);cases e<;>rfl) (((iQ k).e h g ok).mono λ v U1 ⟨z,T,q⟩=>d6 (mq hm) ?_)
  have e:∃R',Fl U1 ((ns,.ns fs)::(me,.inst 220 ns)::R')/\QS .next m (.mk me ns (fs++[(attr,v)]) R'):=by
   cases q with
   | val v q=>exact cC _ T q
   | ob D o q=>exact cC _ (Fl.perm T yy) q
   | ob2 D o p q=>exact cC _ ((Fl.subl T ((bM _ _).cons_cons _)).perm yy) q
  refine aM e λ R' T q=>?_;clear e
  exact yB me 220 ns fs rfl (T.xt _ (.tail _ (.head _))) (T.xt _ (.head _)) (sX _) (OV _ (mP.mp ha)) h4 (ah (r_ _ _ _ h3) ⟨m,.mk me ns (fs++[(attr,v)]) R',rfl,Fl.turn T .here,q⟩)⟩
theorem FI(hn:G.n=n+1)
  (q:∀K H Cs Rw B Lk,Q .none (.mk me ns [("known",.ref K),("heights",.ref H),("causes",.ref Cs),("row",.ref Rw),("begins",.ref B),("seen",vi 0),("liked",.ref Lk)] ((Lk,.dict [])::(B,.list [])::(Rw,.list [])::(Cs,.dict [])::(H,.dict [])::(K,.dict [])::E))):
  j4 G 76 [.ref me] (.mk me ns [] E) Q:=by
 refine enter hn ["self"] [.v (.ref me)] rfl rfl rfl (λ vs h=>by refine aS (u2 h) λ V QI=>?_;subst QI;rfl) rfl ?_
 exact mS (k:=2) rfl rfl rfl (aH rfl) λ K=> .ob K _ (mS (k:=2) rfl rfl rfl (aH rfl) λ H=> .ob H _ (mS (k:=2) rfl rfl rfl (aH rfl) λ Cs=> .ob Cs _ (mS (k:=2) rfl rfl rfl (aH rfl) ⟨bb _,λ Rw=> .ob Rw _ (mS (k:=2) rfl rfl rfl (aH rfl) ⟨bb _,λ B=> .ob B _ (mS (k:=2) rfl rfl rfl (aH rfl) (.val _ (mS (k:=2) rfl rfl rfl (aH rfl) λ Lk=> .ob Lk _ (gA (q K H Cs Rw B Lk)))))⟩)⟩)))
noncomputable def HT:List rG:=[.ns,.self,.blamed,.log,.heats,.watching,.rows,.liked,.begins,.row,.causes,.heights,.known]
noncomputable def HU:rG->Nat
 | .ns=>0
 | .self=>1
 | .blamed=>2
 | .log=>3
 | .heats=>4
 | .watching=>5
 | .rows=>6
 | .liked=>7
 | .begins=>8
 | .row=>9
 | .causes=>10
 | .heights=>11
 | _=>12
theorem qd(h:live (ib many) t):t∈HT:=by
 have e:HT[HU t]? =some t:=by
  cases t with
  | rowL i=>exact absurd h (mN _)
  | logT i=>exact absurd h (mN _)
  | wl l=>exact (jD h).elim
  | _=>rfl
 exact am e
theorem yp{α β:Type}{f:α->β}:∀{l:List α},(l.map f).Nodup->∀{x y},x∈l->y∈l->f x=f y->x=y
 | a::l,h,x,y,hx,hy,e=>by
  refine aU (bp.mp h) λ h1 h2=>?_
  cases hx with
  | head=>cases hy with
   | head=>rfl
   | tail _ hy=>exact absurd (e▸bf hy) h1
  | tail _ hx=>cases hy with
   | head=>exact absurd (e▸bf hx) h1
   | tail _ hy=>exact yp h2 hx hy e
theorem Fm(hA:A .self=me)(hm:many<=900)(T:Fl U (HT.map (λ t=>(A t,(gB A (ib many) t).getD (.tup [])))++E)):St me A (ib many) U E:=by
 have hnd:=T.nd
 replace hnd:=bC▸aD▸hnd
 exact cu (c8.mp hnd) λ n1 n2 n3=>⟨hA,⟨λ t o h=>T.xt (A t,o) (ak _ (aJ.mpr ⟨t,qd (d9.mpr ⟨o,h⟩),ah h rfl⟩)),λ t u ht hu e=>yp n1 (qd ht) (qd hu) e⟩,Fo hm,
  λ p hp=>⟨λ t ht e=>n3 _ (bf (qd ht)) _ (bf hp) e,T.xt p (ai _ hp)⟩,n2⟩
theorem EA{nm:List (Str×dM)}{names:List Str}{mvs:List MV}{τ:AH}(g:GF (G.sub n nm) F)(hd:names.Nodup)(ok:z.ok G τ)(h:(Wk 99 (G.sub n nm)).s rest (names.zip mvs) z (Me G Q)):
  WS (CX G.X) F n rest (wO (names.zip (mvs.map (MV.val G.me))) λ V=>none) τ λ fl V U' =>pv G Q (er (match fl with | .ret v=>v | _=> .none)) U' :=by
 refine WS.mem (((iQ 99).s h g ok).bd (G:=G.sub n nm) λ fl Q1 QM U1 QF q=>?_) λ x v e=>nO ((lG _ _).nodup hd) (af (lF ..) e)
 obtain ⟨Q3,s₂,q⟩:=q
 have q:=q ⟨_,s₂ _ QF⟩
 refine ⟨Q3,s₂ _ QF,?_⟩
 cases fl<;>exact q
theorem BQ{vs:List Value}{K:Zs->Prop}{R:AH->Prop}(h:j4 G f vs z λ V z=>K z)(hk:∀z τ,z.ok G τ->K z->R τ)(ok:z.ok G U):WC (CX G.X) G.n f vs U λ V τ=>R τ:=
 (h.run U ok).mono λ v τ QL=>by obtain ⟨z,k,q⟩:=QL;exact hk z τ k q
noncomputable def JH(i:Nat):List (Int×Value):=(cV i).map λ(j:Nat)=>((j:Int)+1,vi 0)
theorem Ci(i:Nat):cW (JH i) (1+(i:Int)) (vi 0)=JH (i+1):=by
 rewrite [kG]
 ·unfold JH
  refine ah l_ (ah aD ?_);rewrite [Int.add_comm 1];rfl
 ·unfold JH
  refine ah bC ?_
  intro hm
  refine aM (aJ.mp hm) λ j hj e=>?_
  have:=cE.mp hj
  have e' :(j:Int)+1=1+i:=e
  lia
theorem Fp(many:Nat):JH many=lr vi (ib many).heats:=by
 refine ((ah bC ?_):_=ln _ (ln _ _));rfl
theorem IY{a:Addr}{cas:List Addr}{cls:List (List Int)}{many:Nat}{I:Nat->SS->Prop}(hX:Dr G.X)(hn:G.n=n+4)(ha:(a,.list (cas.map .ref))∈E)(hlen:cas.length=cls.length)(hcl:∀(i:Nat) (c:Addr),cas[i]? =some c->∃ls:List Int,cls[i]? =some ls/\(c,.tup (ls.map vi))∈E)(hm:many<=900)
  (g0:I 0 (ib many)) (gs:∀(i:Nat) (S:SS) (ls:List Int),cls[i]? =some ls->I i S->mM S->Hp S ls (I (i+1))) (q:∀A S,I cls.length S->Q .none (.s A S E)):j4 G 118 [.ref G.me,.ref a,vn many] (.mk G.me ns [] E) Q:=⟨λ U ok=>by
 have T:Fl U ((ns,.ns [])::(G.me,.inst 220 ns)::E):=ok
 refine ah hn (DG (f2:=76) (names:=[aF "clauses",aF "many"]) (fs:=[]) rfl rfl rfl (λ vs h=>by refine lh (B6 h) λ V V V QT=>?_;subst QT;rfl) (by decide) (by decide) (by decide) rfl rfl rfl rfl rfl rfl ?kf rfl rfl rfl rfl rfl rfl hX.top (by rfl) rfl rfl rfl rfl (λ V=>rfl) (λ V=>rfl) (λ V=>by with_unfolding_all rfl) (T.xt _ (.tail _ (.head _))) (T.xt _ (.head _)) ?_)
 case kf=>
  have:=hX.file
  have h2:qG (KK G.X.w.params) 118=some _:=rfl
  replace this:=h2▸this
  exact dI (aO this) (beq_self_eq_true _)
 intro b
 refine BQ (G:=G.sub (n+3) []) (z:=.mk G.me ns [] E) ?h (λ z τ ok q=>EA (mvs:=[.v (.ref G.me),.v (.ref a),.v (vn many)]) ⟨λ x k e V=>e,λ x e=> .inr e,rfl,rfl,λ V V q V=>q.elim,λ q=>q.elim⟩ (by decide) ok q) ok
 case h=>
  refine FI rfl λ K H Cs Rw B Lk=>(mS (k:=2) rfl rfl rfl (aH rfl) ⟨bb _,λ Rs=> .ob Rs _ (mS (k:=2) rfl rfl rfl (aH rfl) λ Wt=> .ob Wt _ (mS (k:=9) rfl rfl rfl (aH rfl) (n8 (by decide) (NU hm) λ D=>?_)))⟩)
  have hrk:((many:Int)+1-1).toNat=many:=vY (many+1) 1
  refine ah hrk (.mk D (.rng 1 many) (fi 1 many) (λ i ys=>ys=JH i) rfl rfl (ah (dt ..) (ac hm (aj _ _))) rfl (λ U T=> .inl (Fl.xt T _ (.head _))) (λ i ys u hu e=>?_) λ ys e Ht=>?_)
  ·refine aU (iC hu) λ V QW=>?_;subst QW
   exact ⟨cR,e▸Ci i⟩
  replace e:=(dt ..)▸e
  refine ah e (ah (Fp ..) (.ob2 Ht _ _ (mS (k:=2) rfl rfl rfl (aH rfl) (.val _ (mS (k:=2) rfl rfl rfl (aH rfl) ⟨bb _,λ Lg=> .ob Lg _ (mS (k:=2) rfl rfl rfl (aH rfl) (.val _ (mS (k:=2) rfl rfl rfl (aH rfl) ⟨bb _,λ Bl=> .ob Bl _ (mS (k:=2) rfl rfl rfl (aH rfl) (.val _ (mS (k:=2) rfl rfl rfl (aH rfl) (.val _ (.mk a (.list (cas.map .ref)) _ (Ad×SS) (λ V=>[("self",.me),("clauses",.v (.ref a)),("many",.v (vn many))]) (λ p=> .s p.1 p.2 E) (λ i p=>I i p.2) (Kn G.me ns K H Cs Rw B Lk Rs Wt Ht Lg Bl,ib many) rfl rfl g0 rfl (λ U T=>Fm rfl hm T) (λ i p U V k=>eA ha k) ?_ ?_)))))⟩)))⟩)))))
  ·intro i p v hv hI ⟨U,ok⟩
   replace hv:=ay▸hv
   refine aM (aQ.mp hv) λ c hc QY=>?_;subst QY
   refine aM (hcl i c hc) λ ls SH Yl=>?_
   have K:=gs i p.2 ls SH hI (lM ok)
   exact n5 rfl Yl rfl K.tr K.lock K.len K.rng K.b1 K.b2 K.b3 K.b4 (λ hp A' =>⟨(A',_),K.no hp,rfl,cR⟩) λ hp c A' hc=>⟨(A',_),K.yes hp c hc,rfl,cR⟩
  ·intro p hI _
   replace hI:=hlen▸(ae ..)▸hI
   exact gA (q p.1 p.2 hI)⟩
end
end
section
section
variable{prog:Program}{w:nD}{A0 A:dY}{s:aE}{base h₀:fT}{L:Addr}{m:Str->Option Value}{env:Env}{news:List (Addr×Obj)}
 {R:rh->aE->Prop} {name qual:Str} {params:MO} {body:List Stmt} {scope:Scope} {dV kV Sd pm cdv ct:Value} {an:Option Addr} {fo:Obj} {f:Addr} {args:Args} {binds:List (Str×Value)}
theorem IW(B:A8 A0 base [] h₀)(F:Fr h₀ L s.heap m)(N:ot h₀ L s.heap news)(hlim:h₀.NoLimit)(hA:A.frames=some [env])(hf:env.frame=some L)(VN:env.scope.kind=.function)
  (ho:s.heap.get? f=some fo) (hd:fo.data=.func (fnX name qual params body scope [] dV kV Sd pm an cdv ct)) (Rz:s.heap.CodeRec cdv qual) (So:A.depth<kY)
  (Rl:BindsTo s (fnX name qual params body scope [] dV kV Sd pm an cdv ct) args binds) (Ru:∀y∈binds,scope.names.lookup y.1=some .local)
  (h:∀g L' QC,Fr h₀ L g m->Fr g L' QC (λ y=>binds.reverse.lookup y)->ot g L' QC news->A8 A base [env] g->h₀.StaysIn g->KtsDicts ([env].filterMap (·.frame)) g->
   br (bL prog w) (A.deeper (rf qual scope L' f cdv [])) (AV body (rf qual scope L' f cdv []))
    (λ fl s' =>LeaveS0 ([env].filterMap (·.frame)) h₀ L m g R (match fl with | .ret v=>v | _=> .none) s')
    (λ e s' =>br (bL prog w) (A.deeper (rf qual scope L' f cdv [])) (leaving (rf qual scope L' f cdv []) e) (λ _ RO =>R (.error e) RO) (λ e' RO =>R (.error e') RO) s')
    {s with heap:=QC,toks:=s.toks+binds.length})
  (Sp:∀x∈scope.names,x.2≠ .cell) (Tz:scope.isCoroutine=false) (RZ:scope.isGenerator=false) (hk:scope.kind=.function):ij (bL prog w) A (.call (.ref f) args) R s:=by
 obtain ⟨FG,BG,st,lv⟩:=groundX (R:=R) B F N hA hf VN
 refine My (fd:=fnX name qual params body scope [] dV kV Sd pm an cdv ct) (body:=body) (binds:=binds) So ho hd (hlim.keeps F.keep) Rz rfl Rl Sp Ru (λ QC hns Rj=>?_) Tz RZ hk
 have eL:∀b,b∈[env].filterMap (·.frame)->b=L:=λ b hb=>by
  obtain ⟨WD,he,Vs⟩:=eP.mp hb
  rw [al.mp he,hf] at Vs
  exact (aO Vs).symm
 obtain ⟨oL,es,ep,Xd,Xe,Yu,Yw⟩:=FG.ns
 refine cz (h _ s.heap.objs.size QC FG ⟨hns,λ b o e=>Rj b o (rb _ e),aC (P9 _ _)⟩
  (λ p hp=>⟨Rj _ _ (N p hp).1,bu (bz (N p hp).1),DV _ (bf hp)⟩) BG st (λ b hb=>by rw [eL b hb];exact ⟨oL,es,ep,Xd,Xe⟩)) (λ fl s' hl=>?_) λ _ _ y=>y
 obtain ⟨g',L',m',Xm,T',F',N',k⟩:=hl
 have nL0:h₀.get? L=none:=kts_self F
 obtain ⟨sl,hs⟩:=T'.up Xd
 refine k ⟨⟨_,es,ep,F'.keep _ _ hs,Xe,Yu,Yw⟩,λ b o e=>F'.keep b o (T'.other b o (st b o e) (λ q=>?_)),F.above⟩ λ p hp=>⟨(N' p hp).1,λ q=>?_,?_⟩
 ·rw [eL b q,nL0] at e;cases e
 ·have:=(N' p hp).2.2;rw [q,hs] at this;cases this
 ·cases q:h₀.get? p.1 with
  | none=>rfl
  | some o=>
   obtain ⟨Zf,hs'⟩:=T'.up (st _ _ q)
   have:=(N' p hp).2.2
   rw [hs'] at this
   cases this
end
section
variable{prog:Program}{w:nD}{A0 A:dY}{s:aE}{base h₀:fT}{outer:List Env}{L:Addr}{m:Str->Option Value}{env:Env}{news:List (Addr×Obj)}
 {R:rh->aE->Prop} {name qual:Str} {params:MO} {body:List Stmt} {scope:Scope} {dV kV Sd pm cdv ct:Value} {an:Option Addr} {fo:Obj} {f:Addr} {args:Args} {binds:List (Str×Value)}
theorem LS(B:A8 A0 base outer h₀)(F:Fr h₀ L s.heap m)(N:ot h₀ L s.heap news)(hlim:h₀.NoLimit)(hA:A.frames=some (env::outer))(hf:env.frame=some L)(VN:env.scope.kind=.function)
  (ho:s.heap.get? f=some fo) (hd:fo.data=.func (fnX name qual params body scope [] dV kV Sd pm an cdv ct)) (Rz:s.heap.CodeRec cdv qual) (So:A.depth<kY)
  (Rl:BindsTo s (fnX name qual params body scope [] dV kV Sd pm an cdv ct) args binds) (Ru:∀y∈binds,scope.names.lookup y.1=some .local)
  (h:∀QC,Fr (fZ s.heap (news.map (·.1))) s.heap.objs.size QC (λ y=>binds.reverse.lookup y)->ot (fZ s.heap (news.map (·.1))) s.heap.objs.size QC news->A8 A base (env::outer) (fZ s.heap (news.map (·.1)))->h₀.StaysIn (fZ s.heap (news.map (·.1)))->Fr h₀ L (fZ s.heap (news.map (·.1))) m->
   br (bL prog w) (A.deeper (rf qual scope s.heap.objs.size f cdv [])) (AV body (rf qual scope s.heap.objs.size f cdv []))
    (λ fl s' =>LeaveK h₀ L m (fZ s.heap (news.map (·.1))) R (match fl with | .ret v=>v | _=> .none) s')
    (λ e s' =>br (bL prog w) (A.deeper (rf qual scope s.heap.objs.size f cdv [])) (leaving (rf qual scope s.heap.objs.size f cdv []) e) (λ _ RO =>R (.error e) RO) (λ e' RO =>R (.error e') RO) s')
    {s with heap:=QC,toks:=s.toks+binds.length})
  (Sp:∀x∈scope.names,x.2≠ .cell) (Tz:scope.isCoroutine=false) (RZ:scope.isGenerator=false) (hk:scope.kind=.function):ij (bL prog w) A (.call (.ref f) args) R s:=by
 obtain ⟨FG,BG,st,lv⟩:=groundX (R:=R) B F N hA hf VN
 refine My (fd:=fnX name qual params body scope [] dV kV Sd pm an cdv ct) (body:=body) (binds:=binds) So ho hd (hlim.keeps F.keep) Rz rfl Rl Sp Ru (λ QC hns Rj=>?_) Tz RZ hk
 exact cz (h QC ⟨hns,λ b o e=>Rj b o (rb _ e),aC (P9 _ _)⟩
  (λ p hp=>⟨Rj _ _ (N p hp).1,bu (bz (N p hp).1),DV _ (bf hp)⟩) BG st FG) (λ fl s' hl=>lv _ _ hl) λ _ _ y=>y
end
noncomputable abbrev Fe(b:Bk)(qual:Str)(scope:Scope)(f:Addr)(cdv:Value)(exc:Value->aE->Prop):c_:=
 {A:=b.A.deeper (rf qual scope b.L f cdv []),fenv:=rf qual scope b.L f cdv [],env:=rf qual scope b.L f cdv [],outer:=b.outer,A0:=b.A0,base:=b.base,h₀:=b.h₀,L:=b.L,oL:=none,cells:=[],exc:=exc}
section
variable{C:Cx}{F:c_}{n:Nat}{m:Str->Option Value}{U U' :AH}{Z:List (Addr×Obj)}{s s' :aE}{qual:Str}{scope:Scope}{f:Addr}{cdv:Value}{exc:Value->aE->Prop}{g QC:fT}{L' :Addr}
theorem Hn(O:F.Ok C (n+1))(B:A8 F.A F.base (F.fenv::F.outer) g)(G:DN C g)(hk:scope.kind=.function)(Uv:∀x∈scope.names,x.2≠ .cell/\x.2≠ .free)
  (xs:∀e s,exc e s->notedBy (bL C.prog C.w) (F.A.deeper (rf qual scope L' f cdv [])) (rf qual scope L' f cdv []) (Jy (bL C.prog C.w) (F.A.deeper (rf qual scope L' f cdv [])) (rf qual scope L' f cdv []) exc) e s):
  (Fe ⟨F.A,F.A,F.fenv::F.outer,F.base,g,L'⟩ qual scope f cdv exc).Ok C n:=by
 refine ⟨B,mR O.hA,rfl,hk,G,hk,rfl,rfl,λ V=>rfl,(λ h=>nomatch h),O.handled,.nil,(λ V h=>nomatch h),(λ V V h=>nomatch h),λ y hy hne=>?_,?_,?_,xs⟩
 ·rcases hy with hy | hy
  ·exact absurd rfl (Uv _ (mem_of_lookup hy)).1
  ·exact absurd rfl (Uv _ (mem_of_lookup hy)).2
 ·have:=O.depth;refine (?_:F.A.depth+1+3*n<_);exact IA this
 ·have:=O.units;refine (?_:F.A.units+3+10*n<_);exact Iz this
theorem cj.into{b:Bk}{names:List Str}{vs:List Value}{tk:Nat}{Z' :List (Addr×Obj)}(R:cj C F Z s m U)(hz:∀p∈Z',U.get p.1=none)(hL:b.L=L')(hg:b.h₀=g)(F' :Fr g L' QC (λ y=>(names.zip vs).reverse.lookup y))(N' :ot g L' QC (Z' ++dQ s.heap (U.map (·.1))))
  (Ut:names.Nodup) (hlen:vs.length=names.length) (Ru:∀y∈names,hV y=true/\scope.names.lookup y=some .local):
  cj C (Fe b qual scope f cdv exc) Z' {s with heap:=QC,toks:=tk} (wO (names.zip (vs.map er)) λ V=>none) U:=by
 subst hL hg
 have hsub2:names.zip (vs.map er)=(names.zip vs).map λ p=>(p.1,er p.2):=gW
 have hzk:(names.zip (vs.map er)).map (·.1)=names:=Eu (by rw [ae,hlen];exact az _)
 have hvar:∀y v,wO (names.zip (vs.map er)) (λ V=>none) y=some v->∃cv,er cv=v/\(names.zip vs).lookup y=some cv/\y∈names:=by
  intro y v hy
  have hl:=(na _ _ (by rw [hzk];exact Ut) y v hy).resolve_right (λ h=>nomatch h)
  have hmem:y∈names:=hzk▸(aJ.mpr ⟨(y,v),mem_of_lookup hl,rfl⟩)
  rw [hsub2,oM] at hl
  obtain ⟨cv,h1,h2⟩:=aQ.mp hl
  exact ⟨cv,h2,h1,hmem⟩
 refine ⟨R.core.upd,⟨_,F'⟩,(λ V h=>nomatch h),⟨_,F'.ns⟩,?_,(λ V h=>nomatch h),(λ V h=>nomatch h),?_,?_,R.sm⟩
 ·intro y v hy
  obtain ⟨cv,e,hl,hmem⟩:=hvar y v hy
  have SX:=Ru y hmem
  have ok:=SX.1
  simp only [hV,dk,b9] at ok
  exact ⟨ok.1,ok.2,cv,e,.inl ⟨SX.2,_,F'.ns,tI Ut hl⟩⟩
 ·intro p hp
  obtain ⟨a,b',c⟩:=N' p (ak _ hp)
  exact ⟨a,b',c,hz p hp⟩
 ·intro a o e
  obtain ⟨⟨⟨ob,x⟩,V,V⟩,q⟩:=R.sg a o e
  obtain ⟨h1,h2,h3⟩:=N' (a,ob) (ai _ (bH.mpr ⟨AH.dom' e,x⟩))
  exact ⟨⟨⟨ob,h1⟩,h2,h3⟩,q.keep λ o' ho' =>by rw [x] at ho';cases ho';exact h1⟩
end
end
section
section
variable{C:Cx}{F:c_}{n:Nat}{m:Str->Option Value}{U U' :AH}{Z:List (Addr×Obj)}{s s' :aE}{M:AW}{E:Value->aE->Prop}{h' :fT}{tk:Nat}{e t:Addr}
theorem EY{Q:Unit->aE->Prop}(O:F.Ok C n)(R:cj C F Z s m U)(hx:Mn s.heap h' e t)(he:F.env=F.fenv)
  (hQ:∀UI vs,RaisedS F.base F.h₀ F.outer e (.ref 53) t vs (um F Z U s.heap) UI ->F.h₀.UpToSlots UI ->Q () {s with heap:=UI,toks:=tk}):
  br M F.A (leaving F.env (.ref e)) Q E {s with heap:=h',toks:=tk}:=by
 obtain ⟨mL,FR⟩:=R.fr
 rw [he]
 have K' :=pushX O.B FR O.hf O.hk
 have N:ot F.h₀ F.L s.heap (um F Z U s.heap):=R.news
 have hin:∀env∈(F.fenv::F.outer),∀b,env.frame=some b->b∈(F.fenv::F.outer).filterMap (·.frame):=λ env he b hb=>eP.mpr ⟨env,he,hb⟩
 have hmem:∀b,b∈(F.fenv::F.outer).filterMap (·.frame)->b=F.L\/b∈F.outer.filterMap (·.frame):=λ b hm=>by
  obtain ⟨env,he,hf⟩:=eP.mp hm
  rcases aL.mp he with rfl | he
  ·exact .inl (aO (hf.symm.trans O.hf))
  ·exact .inr (eP.mpr ⟨env,he,hf⟩)
 have st:F.base.StaysIn (fZ s.heap ((F.fenv::F.outer).filterMap (·.frame))):=λ b o q=>lC _ (K'.stays b o q) λ hm=>by
  rw [(K'.frames.mem hm).1] at q;cases q
 have sg:∀b o,F.h₀.get? b=some o->b∉F.outer.filterMap (·.frame)->(fZ s.heap ((F.fenv::F.outer).filterMap (·.frame))).get? b=some o:=λ b o q nm=>lC _ (FR.keep b o q) λ hm=>by
  rcases hmem b hm with z | z
  ·rw [z,kts_self FR] at q
   cases q
  ·exact nm z
 have hl:∀q∈um F Z U s.heap,(fZ s.heap ((F.fenv::F.outer).filterMap (·.frame))).get? q.1=some q.2/\F.h₀.get? q.1=none/\F.base.get? q.1=none:=λ q hq=>by
  refine ⟨lC _ (N q hq).1 λ hm=>?_,(N q hq).2.2,OG O.B.stays (N q hq).2.2⟩
  rcases hmem _ hm with z | z
  ·exact (N q hq).2.1 z
  ·obtain ⟨o,ho,_⟩:=(O.B.frames.mem z).2
   rw [(N q hq).2.2] at ho;cases ho
 have fresh:∀b,s.heap.get? b=none->(fZ s.heap ((F.fenv::F.outer).filterMap (·.frame))).get? b=none:=λ b hb=>by
  cases q:(fZ s.heap ((F.fenv::F.outer).filterMap (·.frame))).get? b with
  | none=>rfl
  | some o=>have:=rb _ q;rw [hb] at this;cases this
 obtain ⟨oe,vs,he,hc,hd,h0,h1⟩:=hx.there
 obtain ⟨ws,ht⟩:=hx.tup
 refine wpAny_leaving_firstW (a0:=.ref t) (s:={s with heap:=h',toks:=tk}) O.hA ((funFrames_hide K'.frames hin).of_keeps λ b o hb _=>⟨o,hx.keeps b o hb,rfl⟩) O.hf he (λ b o hb=>hx.keeps b o (rb _ hb)) (fresh e hx.new) hd h1 h0 λ UI hL=>?_
 obtain ⟨k1,⟨_,_,k2⟩,k3,k4⟩:=hL
 refine hQ UI ws ⟨⟨_,st,sg,hl,⟨k1,fresh e hx.new,k2,by rw [<-hc];exact k3⟩,fresh t hx.tnew⟩,ht.of_slots k4⟩ (((o8 FR.keep).trans (o8 hx.keeps)).trans k4)
end
noncomputable def GR:Stmt->Scope
 | .FunctionDef _ _ _ _ _ _ sc _ _ _=>sc
 | _=>Qc
inductive tZ(C:Cx)(F:c_)(Z:List (Addr×Obj))(m:Str->Option Value)(q:AH->Prop)(e:Addr)(s' :aE):Prop where
 | mk (g:fT) (t:Addr) (vs:List Value) (mL:Str->Option Value) (U:AH) (QC:fT) (fr:Fr F.h₀ F.L g mL)
   (hv:∀x v,m x=some v->(x==("__debug__":Str))=false/\(x==("__classdict__":Str))=false/\∃cv,er cv=v/\F.env.kindOf x=some .local/\mL x=some cv)
   (rs:RaisedS F.base g (F.fenv::F.outer) e (.ref 53) t vs (Z++dQ QC (U.map (·.1))) s'.heap) (up:g.UpToSlots s'.heap) (core:l5 C s')
   (at_:∀a o,U.get a=some o->(∃ob,QC.get? a=some ob)/\At C QC a o) (zz:∀p∈Z,U.get p.1=none) (sm:∀a o,U.get a=some o->3<a) (h:q U)
section
variable{G:Gx}{F:c_}{n:Nat}{m:Str->Option Value}{U U' :AH}{Z:List (Addr×Obj)}{s s' :aE}{A:Ad}{S:SS}{E:List (Addr×aT)}{cn:Str}{cs:Scope}{fa:Addr}{ZD:Value}
theorem wE{I:SS->Nat->Prop}{Fin:SS->Bool->Prop}{FinX:SS->Prop}{RR:rh->aE->Prop}{vs:List Value}(hX:Dr G.X)(O:F.Ok (CX G.X) (n+4))(R:cj (CX G.X) F Z s m U)(hc:F.cells=[])(ho:F.oL=none)(Ru:∀x,F.env.kindOf x≠some .cell/\F.env.kindOf x≠some .free)
  (T:St G.me A S U E) (Uo:vs.map er=[.ref G.me,.ref a]) (K:mK as S.clashes I Fin FinX) (ha:(a,.list (as.map vi))∈E) (TR:Tr S) (hl:S.lock=none) (har:∀l∈as,-1000<=l/\l<=1000)
  (h0:I (((bT S 0).sBlamed []).sHeats (as.foldl uL S.heats)) k0)
  (SX:∀v s' U' A' S' b,cj (CX G.X) F Z s' m U' ->er v=.bool b->St G.me A' S' U' E->Fin S' b->nt A S A' S' ->RR (.ok (.ret v)) s')
  (VV:∀e s',tZ (CX G.X) F Z m (λ U' =>∃A' S',St G.me A' S' U' E/\FinX S' /\nt A S A' S') e s' ->RR (.error (.ref e)) s'):ij (bL G.X.prog G.X.w) F.A (.call (.ref 203) ⟨vs,[]⟩) RR s:=by
 obtain ⟨mL,FR⟩:=R.fr
 have hown:F.ownA=[]:=by unfold c_.ownA;rw [hc,ho];rfl
 have hlen:vs.length=2:=by have:=congrArg fh Uo;rw [ae] at this;exact this
 have N:ot F.h₀ F.L s.heap (dQ s.heap (U.map (·.1))):=λ p hp=>R.news p (ai _ hp)
 have hel:F.env.locals=F.L:=O.el ho
 have hv:∀x v,m x=some v->(x==("__debug__":Str))=false/\(x==("__classdict__":Str))=false/\∃cv,er cv=v/\F.env.kindOf x=some .local/\mL x=some cv:=λ x v e=>by
  obtain ⟨a,b,cv,ec,q⟩:=R.var x v e
  rcases q with ⟨k,ml,hm,hv⟩ | ⟨k,_⟩
  ·rw [hel] at hm
   rw [fC hm FR.ns] at hv
   exact ⟨a,b,cv,ec,k,hv⟩
  ·rcases k with k | k
   ·exact absurd k (Ru x).1
   ·exact absurd k (Ru x).2
 have hX3:(CX G.X).K.In s.heap:=O.G.X.keeps FR.keep
 refine LS (binds:=([("self":Str),"assumptions"]).zip vs) (news:=dQ s.heap (U.map (·.1))) O.B FR N O.G.T.nolimit O.hA O.hf O.hk (hX3 203 _ rfl) rfl (rg hX3 (by kernel_rfl)) (au (aB _ _) O.depth) (iF ?_) ?_ (λ QC F' N' B' st FG=>?_) ?_ rfl rfl rfl
 ·obtain ⟨x,y,rfl⟩:=j9 hlen
  rfl
 ·intro y hy
  have:=(ff (a:=y.1) (b:=y.2) hy).1
  rcases aL.mp this with e | e
  ·rw [e];rfl
  ·rw [al.mp e];rfl
 ·have Vt:∀p∈Z,(fZ s.heap ((dQ s.heap (U.map (·.1))).map (·.1))).get? p.1=some p.2:=λ p hp=>lC _ (R.zz p hp).1 λ q=>by
   obtain ⟨r,hr,e⟩:=aJ.mp q
   obtain ⟨o,ho⟩:=AH.dom (bH.mp hr).1
   rw [e,(R.zz p hp).2.2.2] at ho
   cases ho
  generalize hg:fZ s.heap ((dQ s.heap (U.map (·.1))).map (·.1))=g at F' N' B' st FG Vt
  generalize hL' :s.heap.objs.size=L' at F' N'
  have gr:DN (CX G.X) g:=O.G.keeps st
  let M:=bL G.X.prog G.X.w
  let exc:Value->aE->Prop:=λ e s' =>br M (F.A.deeper (rf "Search.solve" (oH ((CX G.X).K.lookup 203)) L' 203 (.ref 202) [])) (leaving (rf "Search.solve" (oH ((CX G.X).K.lookup 203)) L' 203 (.ref 202) []) e) (λ _ RO =>RR (.error e) RO) (λ e' RO =>RR (.error e') RO) s'
  let b:Bk:=⟨F.A,F.A,F.fenv::F.outer,F.base,g,L'⟩
  have hsc:∀x∈(oH ((CX G.X).K.lookup 203)).names,x.2≠ .cell/\x.2≠ .free:=(show∀x∈(GR (mem 8 13)).names,x.2≠ .cell/\x.2≠ .free from by decide)
  have O' :(Fe b "Search.solve" (oH ((CX G.X).K.lookup 203)) 203 (.ref 202) exc).Ok (CX G.X) (n+3):=Hn O B' gr rfl hsc λ e s h=>Qg e s h
  have R' :cj (CX G.X) (Fe b "Search.solve" (oH ((CX G.X).K.lookup 203)) 203 (.ref 202) exc) [] _ _ U:=R.into (b:=b) (Z' :=[]) (names:=["self","assumptions"]) (scope:=oH ((CX G.X).K.lookup 203)) (tk:=s.toks+([("self":Str),"assumptions"].zip vs).length) (λ p h=>nomatch h) rfl rfl F' N' (by decide) hlen (show∀y∈[("self":Str),"assumptions"],hV y=true/\(GR (mem 8 13)).names.lookup y=some .local from by decide)
  have zn:∀{s₁ Q1 U1 Z'},cj (CX G.X) (Fe b "Search.solve" (oH ((CX G.X).K.lookup 203)) 203 (.ref 202) exc) Z' s₁ Q1 U1->∀p∈Z,U1.get p.1=none:=λ{s₁ Q1 U1 Z'} R₁ p hp=>by
   cases q:U1.get p.1 with
   | none=>rfl
   | some o=>
    have:=(R₁.sg _ _ q).1.2.2
    rw [show (Fe b "Search.solve" (oH ((CX G.X).K.lookup 203)) 203 (.ref 202) exc).h₀=g from rfl,Vt p hp] at this
    cases this
  have gf:GF (G.subX (n+3) (oH ((CX G.X).K.lookup 203)).names (Pd A S FinX E)) (Fe b "Search.solve" (oH ((CX G.X).K.lookup 203)) 203 (.ref 202) exc):=by
   refine ⟨λ x k e V=>e,λ x e=>absurd rfl (hsc _ (dW e)).2,rfl,rfl,?_,λ q=>q.elim⟩
   intro Z' s₁ Q1 U1 QM h' tk e t R₁ QF hx hb
   refine EY (n:=n+3) O' R₁ hb rfl λ UI ws hR hU=>VV e _ ?_
   obtain ⟨A',S',rfl,hF,hL⟩:=hx
   have zL:∀b o,(fZ g (Z.map (·.1))).get? b=some o->g.get? b=some o:=λ b o q=>rb _ q
   have nZ:∀b,(∀p∈Z,p.1≠b)->b∉Z.map (·.1):=λ b h q=>by
    obtain ⟨p,hp,e⟩:=aJ.mp q
    exact h p hp e
   have FZ:Fr F.h₀ F.L (fZ g (Z.map (·.1))) mL:=by
    obtain ⟨o,es,ep,q,r⟩:=FG.ns
    refine ⟨⟨o,es,ep,lC _ q (nZ _ λ p hp=>(R.zz p hp).2.1),r⟩,λ b o q=>lC _ (FG.keep b o q) (nZ _ λ p hp e=>?_),FG.above⟩
    rw [<-e,(R.zz p hp).2.2.1] at q
    cases q
   refine ⟨fZ g (Z.map (·.1)),t,ws,mL,U1,s₁.heap,FZ,hv,?_,λ b o q=>hU b o (zL b o q),⟨R₁.core.gens,R₁.core.os,R₁.core.dr⟩,λ a o q=>⟨(R₁.sg a o q).1.1,(R₁.sg a o q).2⟩,zn R₁,R₁.sm,⟨A',S',QF,hF,hL⟩⟩
   obtain ⟨⟨B,hB,Xi,hln,SO,hnew⟩,Wj⟩:=hR
   refine ⟨⟨B,hB,λ b o q=>Xi b o (zL b o q),λ q hq=>?_,SO,hnew⟩,Wj⟩
   rcases aw.mp hq with hq | hq
   ·have e2:=(R.zz q hq).2.2.1
    refine ⟨Xi _ _ (Vt q hq) λ hm=>?_,DV _ (bf hq),OG O.B.stays e2⟩
    obtain ⟨env,he,hf⟩:=eP.mp hm
    rcases aL.mp he with rfl | he
    ·exact (R.zz q hq).2.1 (aO (hf.symm.trans O.hf))
    ·obtain ⟨o,h1,_⟩:=(O.B.frames.mem (eP.mpr ⟨env,he,hf⟩)).2
     rw [e2] at h1;cases h1
   ·obtain ⟨h1,h2,h3⟩:=hln q (ai _ hq)
    refine ⟨h1,?_,h3⟩
    cases z:(fZ g (Z.map (·.1))).get? q.1 with
    | none=>rfl
    | some o=>have:=zL _ _ z;rw [show (Fe b "Search.solve" (oH ((CX G.X).K.lookup 203)) 203 (.ref 202) exc).h₀=g from rfl,this] at h2;cases h2
  have hw:=(iQ 99).s (FK (Q:=λ v z=>∃A' S' b,v=.bool b/\z=.s A' S' E/\Fin S' b/\nt A S A' S') hX K ha TR hl har h0 λ A' S' b q l=>⟨A',S',b,rfl,rfl,q,l⟩) gf T O' _ _ (λ fl s' =>LeaveK F.h₀ F.L mL g RR (match fl with | .ret v=>v | _=> .none) s') (R'.forget ?_) (λ fl s' m' U' Q9 q=>?_)
  ·exact hw
  ·intro x v e
   rw [Uo]
   refine nO ((lG _ _).nodup (show ([("self":Str),"assumptions"]).Nodup from by decide)) ?_
   have e' :(([("self":Str),"assumptions"]).zip ([MV.me,MV.v (.ref a)].map (MV.val G.me))).lookup x=some v:=(lF ..).trans e
   exact e'
  ·obtain ⟨Q1,QM,em,QF,Q3,s₂,q⟩:=q
   obtain ⟨A',S',b,ev,rfl,hF,hL⟩:=q ⟨_,s₂ _ QF⟩
   have T' :St G.me A' S' U' E:=s₂ _ QF
   obtain ⟨To,Te⟩:=Q9.fr
   refine ⟨L',To,dQ s'.heap (U'.map (·.1)),Te,λ p hp=>Q9.news p (ai _ hp),λ FE NE=>SX _ s' U' A' S' b ?_ ?_ T' hF hL⟩
   ·refine ⟨Q9.core,⟨mL,FE⟩,λ ml e=>(by rw [ho] at e;cases e),⟨mL,hel.symm▸FE.ns⟩,λ x v e=>?_,λ x hx=>(by rw [hc] at hx;cases hx),λ a ha=>(by rw [hown] at ha;cases ha),λ p hp=>?_,λ a o e=>?_,Q9.sm⟩
    ·obtain ⟨a,b,cv,ec,k,hv⟩:=hv x v e
     exact ⟨a,b,cv,ec,.inl ⟨k,mL,hel.symm▸FE.ns,hv⟩⟩
    ·exact ⟨Q9.keep _ _ (Vt p hp),(R.zz p hp).2.1,(R.zz p hp).2.2.1,zn Q9 p hp⟩
    ·obtain ⟨⟨⟨ob,x⟩,_,_⟩,q⟩:=Q9.sg a o e
     obtain ⟨_,h2,h3⟩:=NE (a,ob) (bH.mpr ⟨AH.dom' e,x⟩)
     exact ⟨⟨⟨ob,x⟩,h2,h3⟩,q⟩
   ·cases fl<;>first | exact ev | (cases ev)
 ·exact (show∀x∈(GR (mem 8 13)).names,x.2≠ .cell from by decide)
end
end
section
noncomputable abbrev mA(a:Addr)(QH:Int)(c:Nat):dZ:=[("begun",.v (vn c)),("search",.me),("assumed",.v (.ref a)),("most",.v (vi QH))]
noncomputable abbrev GS(G:Gx):Scope:=oH ((CX G.X).K.lookup 266)
section
variable{G:Gx}{F:c_}{n:Nat}{QH:Int}{c:Nat}{a:Addr}{U U' :AH}{Z:List (Addr×Obj)}{s s' :aE}{A:Ad}{S:SS}{E:List (Addr×aT)}
theorem Ap{I:SS->Nat->Prop}{Fin:SS->Bool->Prop}{FinX:SS->Prop}{W:fH->aE->Prop}{EE:Value->aE->Prop}{p1 p2 p3 p4 p5 p6 p7:Pos}(hX:Dr G.X)(hpos:kQ p2 p6 (.Name "search" p1) [.Call (.Name "list" p3) [.Name "assumed" p4] [] p5]=true)
  (O:F.Ok (CX G.X) (n+4)) (gf:GF (G.sub (n+4) (GS G).names) F) (R:cj (CX G.X) F Z s (cH G.me (mA a QH c)) U) (hc:F.cells=[]) (ho:F.oL=none) (Ru:∀x,F.env.kindOf x≠some .cell/\F.env.kindOf x≠some .free)
  (T:St G.me A S U E) (K:mK as S.clashes I Fin FinX) (ha:(a,.list (as.map vi))∈E) (hz:as.length<=1000) (TR:Tr S) (hl:S.lock=none) (har:∀l∈as,-1000<=l/\l<=1000)
  (h0:I (((bT S 0).sBlamed []).sHeats (as.foldl uL S.heats)) k0)
  (SX:∀v s' U' A' S' b,cj (CX G.X) F Z s' (cH G.me (mA a QH c)) U' ->er v=.bool b->St G.me A' S' U' E->Fin S' b->nt A S A' S' ->W (.ret v) s')
  (VV:∀e s',tZ (CX G.X) F Z (cH G.me (mA a QH c)) (λ U' =>∃A' S',St G.me A' S' U' E/\FinX S' /\nt A S A' S') e s' ->EE (.ref e) s'):
  br (bL G.X.prog G.X.w) F.A (AV [.Return (some (.Call (.Attribute (.Name "search" p1) "solve" p2) [.Call (.Name "list" p3) [.Name "assumed" p4] [] p5] [] p6)) p7] F.env) W EE s:=by
 refine gT (rK (ur (sN (d6 (C:=CX G.X) (n:=n+4) (m:=cH G.me (mA a QH c)) (v:=.ref G.me) rfl (Q:=λ v U' =>v=.ref G.me/\U' =U) ⟨rfl,rfl⟩ O Z s _ R λ ov s₁ U1 R₁ XV=>?_)) (qk hpos _)))
 obtain ⟨eo,rfl⟩:=XV
 refine jz eo ?_
 have T1:St G.me A S U1 E:=T
 obtain ⟨es,k,Sk,hes⟩:=(R₁.sg _ _ (T1.inv.at_ .ns _ rfl)).2
 have hg:=hes.getL "solve"
 obtain ⟨mL,FR⟩:=R₁.fr
 have hnl:nsLook "solve" (fields A S)=none:=qD (x:="solve") (f:=203) rfl
 rw [hnl] at hg
 have hM:=Nn G.X.w.params (q:=("solve",203)) (am (i:=15) rfl)
 have Sn:=T1.inv.at_ .self _ rfl
 rw [T1.self] at Sn
 have hl2:(Wk 99 (G.sub (n+4) (GS G).names)).l [.Call (.Name "list" p3) [.Name "assumed" p4] [] p5] (mA a QH c) (.s A S E) (λ vs z=>∃D,vs=[.ref D]/\z=.s A S ((D,.list (as.map vi))::E)):=by
  exact tN (aY ha) (ac (aC (ae ..)) (ac hz (by decide))) λ D=>⟨D,rfl,rfl⟩
 refine Qq FR O.G.X (kJ (R₁.sg _ _ Sn).2 Sk) ((sX G.X.w.params).pg _) hM.at_ hM.fn hg (callWith_def (C:=CX G.X) hM.keep (d5 rfl) (sN ((iQ 99).l hl2 gf T1 O Z s₁ _ _ R₁ λ vs s₂ QB R₂ q=>?_)))
 obtain ⟨Q3,QN,D,Vu,rfl⟩:=q
 refine ⟨O.G.X.keeps R₂.keep,kR (wE (vs:=.ref G.me::vs) hX O R₂ hc ho Ru QN ?_ K (.head _) TR hl har h0 (λ v s' U' A' S' b R' e T' h l=>?_) λ e s' h=>?_)⟩
 ·rw [bc,Vu];rfl
 ·exact SX v s' U' A' S' b R' e (St.subl T' (bM _ _)) h l
 ·refine VV e s' ?_
  obtain ⟨g,t,ws,mL,U',QC,a1,a2,a3,a4,a5,a6,a7,a8,A',S',T',hF,hL⟩:=h
  exact ⟨g,t,ws,mL,U',QC,a1,a2,a3,a4,a5,a6,a7,a8,A',S',St.subl T' (bM _ _),hF,hL⟩
end
noncomputable abbrev qn(b:Bk)(G:Gx):c_:=Fe b "_law_asked" (GS G) 266 (.ref 265) (λ V V=>False)
section
variable{G:Gx}{b:Bk}{n:Nat}{m:Str->Option Value}{U U' :AH}{Z:List (Addr×Obj)}{s s' :aE}{A:Ad}{S:SS}{E:List (Addr×aT)}{e:Addr}{q:AH->Prop}
theorem tZ.rep{mL:Str->Option Value}{g' h' QC:fT}(hv:∀x v,m x=some v->(x==("__debug__":Str))=false/\(x==("__classdict__":Str))=false/\∃cv,er cv=v/\(qn b G).env.kindOf x=some .local/\mL x=some cv)
  (F' :Fr g' b.L h' mL) (N' :ot g' b.L h' (Z++dQ QC (U.map (·.1)))) (core:l5 (CX G.X) s') (at_:∀a o,U.get a=some o->(∃ob,QC.get? a=some ob)/\At (CX G.X) QC a o) (zz:∀p∈Z,U.get p.1=none) (sm:∀a o,U.get a=some o->3<a):
  cj (CX G.X) (qn {b with h₀:=g' } G) Z {s' with heap:=h' } m U:=by
 refine ⟨⟨core.gens,core.os,core.dr⟩,⟨mL,F'⟩,(λ ml e=>nomatch e),⟨mL,F'.ns⟩,λ x v e=>?_,(λ x hx=>nomatch hx),(λ a ha=>nomatch ha),λ p hp=>?_,λ a o e=>?_,sm⟩
 ·obtain ⟨a,b,cv,ec,k,hv⟩:=hv x v e
  exact ⟨a,b,cv,ec,.inl ⟨k,mL,F'.ns,hv⟩⟩
 ·obtain ⟨a,b,c⟩:=N' p (ak _ hp)
  exact ⟨a,b,c,zz p hp⟩
 ·obtain ⟨⟨ob,x⟩,h⟩:=at_ a o e
  obtain ⟨h1,h2,h3⟩:=N' (a,ob) (ai _ (bH.mpr ⟨AH.dom' e,x⟩))
  exact ⟨⟨⟨ob,h1⟩,h2,h3⟩,h.keep λ o' ho' =>by rw [x] at ho';cases ho';exact h1⟩
theorem rX:∀x∈(GR (uH 17)).names,x.2≠ .cell/\x.2≠ .free:=by decide
theorem wP(x:Str):(qn b G).env.kindOf x≠some .cell/\(qn b G).env.kindOf x≠some .free:=
 ⟨λ h=>(rX _ (dW h)).1 rfl,λ h=>(rX _ (dW h)).2 rfl⟩
theorem uU{A' :dY}{x:Str}{v:Value}{pos:Pos}{Q:Value->aE->Prop}{E' :Value->aE->Prop}(R:cj (CX G.X) (qn b G) Z s m U)(hm:m x=some v)(h:∀cv,er cv=v->Q cv s):br (bL G.X.prog G.X.w) A' (fF (.Name x pos) (qn b G).env) Q E' s:=by
 obtain ⟨hd,Rz,cv,e,q⟩:=R.var x v hm
 rcases q with ⟨k,ml,hn,hv⟩ | ⟨k | k,c,hc,hv⟩
 ·exact kU (fq rfl k hn hv (h _ e)) hd
 ·exact absurd k (wP x).1
 ·exact absurd k (wP x).2
theorem u7{A' :dY}{W:fH->aE->Prop}{E' :Value->aE->Prop}{QH:Int}{c:Nat}{a:Addr}{p1 p2 p3 p4 p5 p6:Pos}{k6:Nat}(O:(qn b G).Ok (CX G.X) n)(R:cj (CX G.X) (qn b G) Z s (cH G.me (mA a QH c)) U)(T:St G.me A S U E)
  (k:∀D RO,cj (CX G.X) (qn b G) Z RO (cH G.me (mA a QH c)) (U.put D (.tup [vi ((S.clashes:Int)-c)]))->U.get D=none->W (.ret (.ref D)) RO):
  br (bL G.X.prog G.X.w) A' (AV [.Return (some (.Tuple [.BinOp (.Attribute (.Name "search" p1) "clashes" p2) .Sub (.Name "begun" p3) p4] k6 p5)) p6] (qn b G).env) W E' s:=by
 refine gT (rK (Tuple_ (rM (Qo (OU (uU R (v:=.ref G.me) rfl λ cv e=>?_) (ql _ _ _ _ _))))))
 refine jz e ?_
 have Sn:=T.inv.at_ .self _ rfl
 rw [T.self] at Sn
 obtain ⟨es,k',Sk,hes⟩:=(R.sg _ _ (T.inv.at_ .ns _ rfl)).2
 have hg:=hes.getL "clashes"
 rw [show nsLook "clashes" (fields A S)=some (vn S.clashes) from rfl] at hg
 obtain ⟨ZB,e1,hg⟩:=hg
 obtain ⟨mL,FR⟩:=R.fr
 refine P_ FR O.G.X (kJ (R.sg _ _ Sn).2 Sk) ((sX G.X.w.params).pg _) (sX G.X.w.params).hd (Og G.X.w.params (x:="clashes") (am (i:=14) rfl)) rfl hg (oP (by rw [e1];rfl)) ?_
 have R1:cj (CX G.X) (qn b G) Z {s with toks:=s.toks+1} (cH G.me (mA a QH c)) U:=R.toks O
 refine uU R1 (v:=vn c) rfl λ ZA e2=>?_
 refine iU e1 λ t1=>iU e2 λ t2=>sub_int (rL ?_)
 refine Oz ?_ (by show 1<=sizeLine;decide)
 have R2:cj (CX G.X) (qn b G) Z {s with toks:=s.toks+1+1} (cH G.me (mA a QH c)) U:=R.toks O
 obtain ⟨R3,h3⟩:=R2.push (tk:=s.toks+1+1) O (ao:=.tup [vi ((S.clashes:Int)-c)]) (xA (vs:=[.int ((S.clashes:Int)-c) (s.toks+1)]) rfl)
 exact k _ _ R3 h3
theorem Ao{I:SS->Nat->Prop}{Fin:SS->Bool->Prop}{FinX:SS->Prop}{W:fH->aE->Prop}{as:List Int}{a:Addr}{QH:Int}{c k0 k6:Nat}{p1 p2 p3 p4 p5 p6 p7 q1 q2 q3 q4 q5 q6 np hp tp:Pos}(hX:Dr G.X)(hpos:kQ p2 p6 (.Name "search" p1) [.Call (.Name "list" p3) [.Name "assumed" p4] [] p5]=true)
  (Xa:b.A0=b.A) (O:(qn b G).Ok (CX G.X) (n+4)) (XB:DN (CX G.X) b.base) (D:KtsDicts (b.outer.filterMap (·.frame)) b.h₀) (R:cj (CX G.X) (qn b G) Z s (cH G.me (mA a QH c)) U)
  (T:St G.me A S U E) (Zo:c=S.clashes) (K:mK as S.clashes I Fin FinX) (ha:(a,.list (as.map vi))∈E) (hz:as.length<=1000) (TR:Tr S) (hl:S.lock=none) (har:∀l∈as,-1000<=l/\l<=1000)
  (h0:I (((bT S 0).sBlamed []).sHeats (as.foldl uL S.heats)) k0)
  (SX:∀v s' U' A' S' b',cj (CX G.X) (qn b G) Z s' (cH G.me (mA a QH c)) U' ->er v=.bool b' ->St G.me A' S' U' E->Fin S' b' ->nt A S A' S' ->W (.ret v) s')
  (Uj:∀D RO g' U' A' S',KtsTurn (b.outer.filterMap (·.frame)) b.h₀ g' ->cj (CX G.X) (qn {b with h₀:=g' } G) Z RO (cH G.me (mA a QH c)) (U'.put D (.tup [vi ((S'.clashes:Int)-c)]))->St G.me A' S' U' E->U'.get D=none->FinX S' ->nt A S A' S' ->W (.ret (.ref D)) RO):
  br (bL G.X.prog G.X.w) (qn b G).A (AV [.Try [.Return (some (.Call (.Attribute (.Name "search" p1) "solve" p2) [.Call (.Name "list" p3) [.Name "assumed" p4] [] p5] [] p6)) p7]
   [.ExceptHandler (some (.Name "LimitFault" np)) none [.Return (some (.Tuple [.BinOp (.Attribute (.Name "search" q1) "clashes" q2) .Sub (.Name "begun" q3) q4] k6 q5)) q6] hp] [] [] tp] (qn b G).env) W (λ V V=>False) s:=by
 have gf:GF (G.sub (n+4) (GS G).names) (qn b G):=⟨λ x k e V=>e,λ x e=>absurd rfl (rX _ (dW e)).2,rfl,rfl,λ V V q V=>q.elim,λ q=>q.elim⟩
 refine gT (wpAny_Try_except (Ap (FinX:=FinX) (Fin:=Fin) hX hpos O gf R rfl rfl wP T K ha hz TR hl har h0 (λ v s' U' A' S' b' R' ev T' hF l=>SX v s' U' A' S' b' R' ev T' hF l) λ e s' h=>?_))
 obtain ⟨g,t,vs,mL,U',QC,fr,hv,rs,up,core,at_,zz,sm,A',S',T',hF,hL⟩:=h
 have hB:A8 b.A b.base b.outer b.h₀:=Xa▸O.B
 refine caught_SO0 (name:="_law_asked") (scope:=GS G) (L:=b.L) (a:=266) (cd:=.ref 265) (A₀:=b.A) (g₀:=b.h₀) rs fr hB up XB.X XB.T D GJ (by kernel_rfl) (by kernel_rfl) (λ h' g' Xl T1 F1 N2 Gt N1 K1 X1 P1 D1=>?_) rfl rfl (by decide+kernel)
 have O' :(qn {b with h₀:=g' } G).Ok (CX G.X) (n+4):=⟨Xa.symm▸K1,O.hA,O.hf,O.hk,⟨X1,P1⟩,O.ek,O.eg,O.eb,O.el,O.ei,O.handled,O.capart,O.cloc,O.csub,O.cok,O.depth,O.units,qz⟩
 have R' :=tZ.rep (b:=b) hv F1 N1 core at_ zz sm
 exact u7 (b:={b with h₀:=g' }) O' R' T' λ D RO Q9 hD=>Uj D RO g' U' A' S' T1 Q9 T' hD hF hL
end
end
section
section
variable{G:Gx}{F:c_}{n:Nat}{U U' :AH}{Z:List (Addr×Obj)}{s s' :aE}{A:Ad}{S:SS}{E:List (Addr×aT)}
theorem yT{R:dZ->Zs->Prop}{W:fH->aE->Prop}(g:GF G F)(O:F.Ok (CX G.X) G.n)(hR:∀m z U s,R m z->z.ok G U->cj (CX G.X) F Z s (cH G.me m) U->br (bL G.X.prog G.X.w) F.A (AV rest F.env) W F.exc s):
  ∀(pre:List Stmt) (k:Nat) (m:dZ) (z:Zs) (U:AH) (s:aE),(Wk k G).s pre m z (λ f m z=>f=.next/\R m z)->z.ok G U->cj (CX G.X) F Z s (cH G.me m) U->br (bL G.X.prog G.X.w) F.A (AV (pre++rest) F.env) W F.exc s
 | _,0,_,_,_,_,h,_,_=>h.elim
 | [],k+1,m,z,U,s,h,ok,R=>hR m z U s h.2 ok R
 | b::r,k+1,m,z,U,s,h,ok,R=>gT (sT (iQ k) h g ok O _ _ _ R λ f s' m' U' R' QI=>by
   obtain ⟨Q1,QM,e,Tf,q⟩:=QI
   subst e
   cases f with
   | next=>exact yT g O hR r k Q1 QM U' s' q Tf R'
   | _=>cases q.1)
theorem FO{I:SS->Nat->Prop}{Fin:SS->Bool->Prop}{FinX:SS->Prop}{m:dZ}{as:List Int}{a:Addr}{QH:Int}{k0:Nat}{p0 p1 p2 p3 pos:Pos}{Q:VQ}(hX:Dr G.X)(hn:G.n=n+5)(SA:G.top)(Uc:G.nm.lookup ("_law_asked":Str)=some .globalImplicit)
  (m1:m.lookup ("search":Str)=some .me) (m2:m.lookup ("assumed":Str)=some (.v (.ref a))) (m3:m.lookup ("most":Str)=some (.v (vi QH)))
  (K:mK as S.clashes I Fin FinX) (ha:(a,.list (as.map vi))∈E) (hz:as.length<=1000) (TR:Tr (S.sLimit QH)) (hl:S.lock=none) (har:∀l∈as,-1000<=l/\l<=1000)
  (h0:I (((bT (S.sLimit QH) 0).sBlamed []).sHeats (as.foldl uL S.heats)) k0)
  (q:∀A' S' b,Fin S' b->nt A (S.sLimit QH) A' S' ->Q (.bool b) (.s A' S' E)) (qX:∀A' S' D,FinX S' ->nt A (S.sLimit QH) A' S' ->Q (.ref D) (.s A' S' ((D,.tup [vi ((S'.clashes:Int)-S.clashes)])::E))):
  gP G (.Call (.Name "_law_asked" p0) [.Name "search" p1,.Name "assumed" p2,.Name "most" p3] [] pos) m (.s A S E) Q:=⟨λ F U gf k O Z s W R KW=>by
 obtain ⟨TG,Tl⟩:=gf.tp SA
 have mm:∀{x v},m.lookup x=some v->cH G.me m x=some (v.val G.me):=λ e=>by unfold cH;rw [e];rfl
 have hargs:WL (CX G.X) F G.n [.Name "search" p1,.Name "assumed" p2,.Name "most" p3] (cH G.me m) U (λ vs U' =>vs=[.ref G.me,.ref a,vi QH]/\U' =U):=e_ (λ _=>rfl) (d6 (mm m1) (e_ (λ _=>rfl) (d6 (mm m2) (e_ (λ _=>rfl) (d6 (mm m3) (jW ⟨rfl,rfl⟩))))))
 refine ju (dD O.ek (gf.kind _ _ Uc (by decide)) (iO (ah O.eg (O.G.T.g.keeps R.keep)) (JO (v:=.ref 266) O.G.X O.G.T.g (by kernel_rfl)) ?_) (by decide+kernel))
 refine callWith_def (C:=CX G.X) (first:=[]) (by kernel_rfl) (d5 rfl) (hargs O Z s _ _ R λ vs s₂ QB R₂ q' =>⟨O.G.X.keeps R₂.keep,?_⟩)
 obtain ⟨Vu,rfl⟩:=q'
 have hlen:vs.length=3:=by have:=congrArg fh Vu;rw [ae] at this;exact this
 obtain ⟨mL,FR⟩:=R₂.fr
 have hX3:(CX G.X).K.In s₂.heap:=O.G.X.keeps R₂.keep
 have hA:F.A.frames=some [F.fenv]:=by rw [O.hA,TG]
 refine kR (IW (f:=266) (news:=um F Z QB s₂.heap) (binds:=([("search":Str),"assumed","most"]).zip vs) (TG▸O.B) FR R₂.news O.G.T.nolimit hA O.hf O.hk (hX3 266 _ rfl) rfl (rg hX3 (by kernel_rfl)) (au (aB _ _) O.depth) (iF ?_) ?_ (λ g L' QC FG F' N' B' st D' =>?_) ?_ rfl rfl rfl)
 ·obtain ⟨x,y,z,rfl⟩:=B6 hlen
  rfl
 ·intro y hy
  have:=(ff (a:=y.1) (b:=y.2) hy).1
  exact (show∀y∈[("search":Str),"assumed","most"],(GR (uH 17)).names.lookup y=some .local from by decide) _ this
 ·have gr:DN (CX G.X) g:=O.G.keeps st
  let b:Bk:=⟨F.A,F.A,F.fenv::F.outer,F.base,g,L'⟩
  have B'' :A8 F.A F.base (F.fenv::F.outer) g:=by rw [TG];exact B'
  have O' :(qn b G).Ok (CX G.X) (n+4):=Hn (hn▸O) B'' gr rfl rX qz
  have R' :cj (CX G.X) (qn b G) (Z++dQ s₂.heap F.ownA) _ _ QB:=R₂.into (b:=b) (f:=266) (cdv:=.ref 265) (exc:=λ V V=>False) (names:=["search","assumed","most"]) (scope:=GS G) (tk:=s₂.toks+([("search":Str),"assumed","most"].zip vs).length) (λ p hp=>by
   rcases aw.mp hp with hp | hp
   ·exact (R₂.zz p hp).2.2.2
   ·exact (R₂.own _ (bH.mp hp).1).2.1) rfl rfl F' N' (by decide) hlen (show∀y∈[("search":Str),"assumed","most"],hV y=true/\(GR (uH 17)).names.lookup y=some .local from by decide)
  have gf' :GF (G.sub (n+4) (GS G).names) (qn b G):=⟨λ x k e V=>e,λ x e=>absurd rfl (rX _ (dW e)).2,rfl,rfl,λ V V q V=>q.elim,λ q=>q.elim⟩
  have hw:=yT (G:=G.sub (n+4) (GS G).names) (F:=qn b G) (Z:=Z++dQ s₂.heap F.ownA) (rest:=(qM ((CX G.X).K.lookup 266)).drop 2) (W:=λ fl s' =>LeaveS0 ([F.fenv].filterMap (·.frame)) F.h₀ F.L mL g (λ r s' =>match r with | .ok (.ret v)=>W v s' | .ok _=>False | .error e=>False) (match fl with | .ret v=>v | _=> .none) s') (R:=λ m z=>m=mA a QH S.clashes/\z=.s A (S.sLimit QH) E) gf' O' (λ Q1 QM U1 s₁ hR ok R₁=>?_) ((qM ((CX G.X).K.lookup 266)).take 2) 99 [("search",.me),("assumed",.v (.ref a)),("most",.v (vi QH))] (.s A S E) QB _ ?_ k (R'.forget ?_)
  ·exact cz hw (λ V V h=>h) qz
  ·obtain ⟨rfl,rfl⟩:=hR
   have hbo:b.outer=[F.fenv]:=by show F.fenv::F.outer=_;rw [TG]
   have TS:St G.me A (S.sLimit QH) U1 E:=ok
   refine Ao (b:=b) (S:=S.sLimit QH) (c:=S.clashes) (FinX:=FinX) (Fin:=Fin) hX rfl rfl O' (by show DN _ F.base;rw [Tl];exact O.G) (by rw [hbo];exact D') R₁ TS rfl K ha hz TR hl har h0 (λ v s' U' A' S' b' R' ev T' hF hL=>?_) (λ D RO g' U' A' S' T1 Q9 T' hD hF hL=>?_)
   ·obtain ⟨To,UL⟩:=R'.fr
    refine ⟨g,L',To,Z++dQ s₂.heap F.ownA++dQ s'.heap (U'.map (·.1)),GJ,UL,λ p hp=>?_,λ FE NE=>KW _ _ U' (R₂.leave O FR R' FE NE) ⟨_,(show Zs.ok G (.s A' S' E) U' from T'),?_⟩⟩
    ·rcases aw.mp hp with hp | hp
     ·obtain ⟨x1,x2,x3,_⟩:=R'.zz p hp
      exact ⟨x1,x2,x3⟩
     ·exact R'.news p (ai _ hp)
    ·rw [ev];exact q A' S' b' hF hL
   ·obtain ⟨To,UL⟩:=Q9.fr
    refine ⟨g',L',To,Z++dQ s₂.heap F.ownA++dQ RO.heap ((U'.put D (.tup [vi ((S'.clashes:Int)-S.clashes)])).map (·.1)),?_,UL,λ p hp=>?_,λ FE NE=>KW _ _ _ (R₂.leave O FR Q9 FE NE) ⟨_,(show Zs.ok G (.s A' S' ((D,.tup [vi ((S'.clashes:Int)-S.clashes)])::E)) _ from St.fresh T' hD),qX A' S' D hF hL⟩⟩
    ·rw [hbo] at T1;exact T1
    ·rcases aw.mp hp with hp | hp
     ·obtain ⟨x1,x2,x3,_⟩:=Q9.zz p hp
      exact ⟨x1,x2,x3⟩
     ·exact Q9.news p (ai _ hp)
  ·exact ⟨rfl,rfl,rfl⟩
  ·intro x v e
   rw [Vu]
   refine nO ((lG _ _).nodup (show ([("search":Str),"assumed","most"]).Nodup from by decide)) ?_
   have e' :(([("search":Str),"assumed","most"]).zip ([MV.me,MV.v (.ref a),MV.v (vi QH)].map (MV.val G.me))).lookup x=some v:=(lF ..).trans e
   exact e'
 ·exact λ x hx=>(rX x hx).1⟩
end
end
section
section
variable{C:Cx}{F:c_}{n:Nat}{m:Str->Option Value}{U U' :AH}{X:Sx}{P:Option (Addr×Ad×SS)}{E E' :List (Addr×aT)}{a b:Addr}{o o' :aT}
noncomputable abbrev eN(cl:Addr)(k:Nat):aT:=.sdict [("cells",.ref cl),("spot",vn k)]
noncomputable def gz(bs:List Bool)(l:Int):Bool:=bs.getD (l.natAbs-1) false==decide (l>0)
end
end
section
section
variable{G:Gx}{A A' :Ad}{S S' :SS}{E E' :List (Addr×aT)}{n:Nat}{z z' :Zs}{Q:VQ}{fd cl:Addr}{cells:List Int}{k:Nat}
theorem qR(hi:i.natAbs<2^64)(q:Q (vi (i*j)) z):lj G (eM .Mult) (vi i) (vi j) z Q:=⟨λ F m U ok=>Ic hi ⟨z,ok,q⟩⟩
theorem yP(hj:j≠0)(q:Q (vi (i.fmod j)) z):lj G (eM .Mod) (vi i) (vi j) z Q:=⟨λ F m U ok=>Ie hj ⟨z,ok,q⟩⟩
theorem tO(h:∀U,z.ok G U->U.get a=some (.sdict kvs))(hk:ig kvs x=some v)(q:Q v z):AA G (.ref a) (.str x 0) z Q:=⟨λ F m U ok=>zV (d0 (h U ok) (by intro _ _ h;cases h)) hk ⟨z,ok,q⟩⟩
structure Fd(G:Gx)(fd cl:Addr)(cells:List Int)(k:Nat)(z z' :Zs):Prop where
 at0:∀U,z.ok G U->U.get fd=some (eN cl k)
 put:∀U,z.ok G U->z'.ok G (U.put fd (eN cl (k+1)))
 at1:∀U,z'.ok G U->U.get fd=some (eN cl (k+1))
 at2:∀U,z'.ok G U->U.get cl=some (.list (cells.map vi))
 len:cells.length<=1000
 small:k<=100000
theorem Fd.sub{nm:List (Str×dM)}(K:Fd G fd cl cells k z z'):Fd (G.sub n nm) fd cl cells k z z' :=by
 obtain ⟨h1,h2,h3,h4,h5,h6⟩:=K
 cases z<;>cases z' <;>exact ⟨h1,h2,h3,h4,h5,h6⟩
theorem Fd.s(ht:gt fd (eN cl k) (eN cl (k+1)) E E')(hc:(cl,.list (cells.map vi))∈E')(hz:cells.length<=1000)(hk:k<=100000):Fd G fd cl cells k (.s A S E) (.s A S E'):=
 ⟨λ U T=>St.at_ T ht.mem,λ U T=>St.turn T ht,λ U T=>St.at_ T ht.mem',λ U T=>St.at_ T hc,hz,hk⟩
theorem Fd.no(ht:gt fd (eN cl k) (eN cl (k+1)) E E')(hc:(cl,.list (cells.map vi))∈E')(hz:cells.length<=1000)(hk:k<=100000):Fd G fd cl cells k (.no E) (.no E'):=
 ⟨λ U T=>Fl.xt T _ ht.mem,λ U T=>Fl.turn T ht,λ U T=>Fl.xt T _ ht.mem',λ U T=>Fl.xt T _ hc,hz,hk⟩
theorem Fd.rd(K:Fd G fd cl cells k z z'):∀U,z'.ok G U->U.rd cl=some (.list (cells.map vi)):=λ U ok=>d0 (K.at2 U ok) (by intro _ _ h;cases h)
theorem FW{Q:Zs->Prop}(K:Fd G fd cl cells k z z')(q:Q z'):DL G (.ref fd) (.str "spot" 0) (vi ((k:Int)+1)) z Q:=⟨λ F m U ok=>zs (K.at0 U ok) (aH rfl) ⟨z',K.put U ok,q⟩⟩
theorem nj{S8:Int}(hn:G.n=n+1)(K:Fd G fd cl cells k z z')(hw:0<S8)(q:∀r,0<=r->r<S8->Q (vi r) z'):j4 G 229 [.ref fd,vi S8] z Q:=by
 refine enter hn ["tape","many"] [.v (.ref fd),.v (vi S8)] rfl rfl rfl (λ vs h=>by refine fg (j9 h) λ V V QI=>?_;subst QI;rfl) rfl ?_
 have hr:∀x:Int,∀v,v=x.fmod S8->Q (vi v) z' :=λ x v e=>e▸q _ (xW x hw) (Ed x hw)
 have hk:=K.small
 have hl:=K.len
 have K:=λ nm=>K.sub (n:=n) (nm:=nm)
 refine tO (K _).at0 rfl (FW (K _) (tO (K _).at1 rfl ?_))
 have hl2:(cells.map vi).length=cells.length:=ae ..
 refine gp (K _).rd hl2 (ac hl (by decide)) (cD (λ hlt=>?_) λ hlt=>?_)
 ·have hlt:k<cells.length:=cM.mp hlt
  refine tO (K _).at1 rfl (gq (v:=vi cells[k]) (K _).rd (ah hl2 (ac hl (by decide))) (af ay (ah (aA hlt) rfl)) ?_)
  exact yP (MJ hw) (gA (hr _ _ rfl))
 ·exact qR (by decide) (qR (by lia) (qR (by decide) (yP (by decide) (yP (MJ hw) (gA (hr _ _ rfl))))))
theorem De(h:∀U,z.ok G U->U.rd a=some (.tup xs))(h0:0<=i)(hz:xs.length<=1000000)(hj:xs[i.toNat]? =some v)(q:Q v z):AA G (.ref a) (vi i) z Q:=⟨λ F m U k=>Fu (h U k) h0 (ac hz (aj _ _)) hj ⟨z,k,q⟩⟩
theorem Kc(h:(a,o)∈E)(hr:∀ob v,o≠ .ro ob v):∀U,Zs.ok G (.no E) U->U.rd a=some o:=λ U T=>d0 (Fl.xt T _ h) hr
theorem ER(h:(a,.list xs)∈E):∀U,Zs.ok G (.no E) U->U.rd a=some (.list xs):=Kc h (by intro _ _ h;cases h)
theorem EQ(h:(a,o)∈E)(k:Zs.ok G (.no E) U):U.sees a o:=.inl (Fl.xt k _ h)
theorem ym(ht:gt a (.list xs) (.list (xs++[v])) E E')(hz:xs.length<=1000000)(q:Q .none (.no E')):lA G (.builtin "list.append") [.ref a,v] (.no E) Q:=⟨λ F m U T=>ke (Fl.xt T _ ht.mem) (ac hz (aj _ _)) ⟨.no E',Fl.turn T ht,q⟩⟩
theorem Nk(h:E'.Sublist E):iG G (.no E) (.no E'):=λ V T=>Fl.subl T h
end
end
section
section
variable{prog:Program}{w:nD}{A:dY}{E:Value->aE->Prop}
theorem sy{it t:Addr}{items:Array Value}(hne:t≠it):∀(n i:Nat) (s:aE) (Q:List Value->aE->Prop),s.heap.IsListIter it t i->s.heap.IsList t items->i+n<=items.size->
  (∀h',h'.IsListIter it t (i+n)->gx it s.heap h' ->Q ((items.toList.drop i).take n) {s with heap:=h' })->br (bL prog w) A (draw (.ref it) n) Q E s
 | 0,i,s,Q,hit,_,_,hQ=>by
  show br _ _ (dG []) Q E s
  exact aZ (by simpa using hQ s.heap hit (Nf ..))
 | n+1,i,s,Q,hit,ht,hle,hQ=>by
  have hlt:i<items.size:=by lia
  show br _ _ (xL (.ref it)>>=_) Q E s
  refine ax (nw hit ht (x:=items[i]) (by simp [hlt]) λ QC Tb Rx=>?_)
  refine ax (bR (sy hne n (i+1) _ _ Tb (by obtain ⟨o,a,b⟩:=ht;exact ⟨o,(Rx.2 _ hne).trans a,b⟩) (by lia) λ QP Wr SE=>aZ ?_))
  have hd:items.toList.drop i=items[i]::items.toList.drop (i+1):=by simp [gD,hlt]
  have:=hQ QP (by rw [show i+(n+1)=i+1+n by lia];exact Wr) (Rx.trans SE)
  rw [hd,AL] at this
  exact this
theorem oB{s:aE}{t:Addr}{items:Array Value}{Q:List Value->aE->Prop}(hh:A.handled=none)(ht:s.heap.IsList t items)
  (hQ:∀h',ML s.heap.objs.size s.heap h' ->Q items.toList {s with heap:=h' }):br (bL prog w) A (Qp (.ref t) items.size none) Q E s:=by
 have hlt:t≠s.heap.objs.size:=by obtain ⟨o,ho,_⟩:=ht;exact bu (bz ho)
 unfold Qp
 refine ax ?_
 ·unfold notIterableAtAll
  refine ax (M6 ht.typeIs PySem.F.slot_list_iter.lookup ?_)
  refine aZ ?_
  simp only [bX,if_false]
  refine ax (bR (rI ht ?_))
  have ht0:∀o,(s.heap.push o).IsList t items:=λ o=>by obtain ⟨ob,a,b⟩:=ht;exact ⟨ob,aW _ a,b⟩
  refine ax (bR (sy hlt items.size 0 _ _ ⟨_,cf _ rfl,rfl,rfl⟩ (ht0 _) (by lia) λ QC Tb Rx=>?_))
  have hall:List.take items.size (List.drop 0 items.toList)=items.toList:=by
   rw [HE];exact fK (by simp)
  rw [hall]
  rw [if_neg (by simp)]
  have ht₁:QC.IsList t items:=by obtain ⟨ob,a,b⟩:=ht0 {cls:=.type "list_iterator",data:=.fields #[.ref t,OD 0]};exact ⟨ob,(Rx.2 _ hlt).trans a,b⟩
  refine ax (bR (om hh Tb ht₁ (by simp) λ QP TT=>?_))
  simp only [nE,bX,if_false]
  refine aZ (hQ QP λ b o hb e=>TT b o hb (Rx.extBut b o hb (aW _ e)))
theorem vH{s:aE}{env:Env}{QV:List Expr}{x1}{pos:Pos}{t:Addr}{items:Array Value}{Q:Unit->aE->Prop}(hh:A.handled=none)(ht:s.heap.IsList t items)
  (hn:(fA QV env).length=items.size) (TZ:(fA QV env).findIdx? (·.1)=none)
  (h:∀h',ML s.heap.objs.size s.heap h' ->br (bL prog w) A (qq ((fA QV env).map (·.2)) items.toList) Q E {s with heap:=h' }):
  br (bL prog w) A (jY (.Tuple QV x1 pos) env (.ref t)) Q E s:=by
 rw [arm_assign_Tuple]
 refine ax (d_ ?_)
 unfold unpack
 rw [hn,TZ]
 exact ax (bR (oB hh ht h))
end
section
variable{C:Cx}{F:c_}{n:Nat}{m:Str->Option Value}{U U' :AH}{Z:List (Addr×Obj)}{s s' :aE}
theorem Gq{Q:fH->(Str->Option Value)->AH->Prop}(hs:l7 [.Tuple QV k tp] e pos.line F.env=dG false)(hw:ef [.Tuple QV k tp] e F.env=dG none)
  (he:fA QV F.env=QV.map λ t=>(false,jY t F.env))
  (h:WE C F n e m U λ v U1=>∃a xs,v=.ref a/\U1.rd a=some (.list xs)/\xs.length=QV.length/\Ax C F n QV xs m U1 λ m' U' =>Q .next m' U'):W1 C F n (.Assign [.Tuple QV k tp] e pos) m U Q:=λ O Z s W R K=>by
 refine sN (Qm (h O Z s _ R λ v s₁ U1 R₁ Q4=>(jk Q4 λ a xs e1 ha hl QC=>?_)) hs hw);clear Q4
 refine jz e1 (ck (R₁.at ha) λ vs c hv hx=>?_)
 have hlen:=dw hx
 refine vH (items:=vs.toArray) O.handled ⟨_,hv,rfl,_,rfl⟩ (by rewrite [he,ae,bo];exact (hlen.trans hl).symm) (ah he (tx QV _)) λ h' hk=>?_
 have R₂:cj C F Z {s₁ with heap:=h' } m U1:=R₁.grow O ⟨R₁.core.gens,R₁.core.os,R₁.core.dr⟩ λ b o e=>hk b o (bu (bz e)) e
 have e2:(fA QV F.env).map (λ x=>x.2)=QV.map λ t=>jY t F.env:=ah he (af bC rfl)
 exact ah e2 (Ax.run O QV vs (hlen.trans hl) (hx▸QC) R₂ λ s m U R h=>K _ _ _ _ R h)
end
end
section
inductive Zk:(List (Addr×aT)->Zs)->Prop where
 | no:Zk .no
 | s (A:Ad) (S:SS):Zk (.s A S)
section
variable{G:Gx}{E E' :List (Addr×aT)}{n:Nat}{z z' :Zs}{Q:VQ}{QS:SQ}{fd cl a D:Addr}{cells:List Int}{k:Nat}{zf:List (Addr×aT)->Zs}{o:aT}
theorem Zk.new(h:Zk zf):(zf E).new a o=zf ((a,o)::E):=by cases h<;>rfl
theorem Zk.at_(h:Zk zf)(hm:(a,o)∈E):∀U,(zf E).ok G U->U.get a=some o:=λ U k=>by
 cases h with
 | no=>exact Fl.xt k _ hm
 | s A S=>exact St.at_ k hm
theorem Zk.rd(h:Zk zf)(hm:(a,o)∈E)(hr:∀ob v,o≠ .ro ob v):∀U,(zf E).ok G U->U.rd a=some o:=λ U k=>d0 (h.at_ hm U k) hr
theorem Zk.list(h:Zk zf)(hm:(a,.list xs)∈E):∀U,(zf E).ok G U->U.rd a=some (.list xs):=h.rd hm (by intro _ _ h;cases h)
theorem Zk.see(h:Zk zf)(hm:(a,o)∈E)(k:(zf E).ok G U):U.sees a o:=.inl (h.at_ hm U k)
theorem Zk.app(h:Zk zf)(ht:gt a (.list xs) (.list (xs++[v])) E E')(hz:xs.length<=1000000)(q:Q .none (zf E')):lA G (.builtin "list.append") [.ref a,v] (zf E) Q:=by
 cases h with
 | no=>exact ym ht hz q
 | s A S=>exact tP ht hz q
theorem Zk.sub(h:Zk zf)(hs:E'.Sublist E):iG G (zf E) (zf E'):=by
 cases h with
 | no=>exact Nk hs
 | s A S=>exact gR hs
theorem Zk.fdK(h:Zk zf)(ht:gt fd (eN cl k) (eN cl (k+1)) E E')(hc:(cl,.list (cells.map vi))∈E')(hz:cells.length<=1000)(hk:k<=100000):Fd G fd cl cells k (zf E) (zf E'):=by
 cases h with
 | no=>exact .no ht hc hz hk
 | s A S=>exact .s ht hc hz hk
theorem LV(h0:0<=j)(q:∀r,Q (vi r) z):lj G (eM .RShift) (vi i) (vi j) z Q:=⟨λ F m U ok=>λ a b ha hb O Z s W R K=>iU ha λ t=>iU hb λ u=>rshift_int h0 (K _ _ _ (R.toks O) ⟨z,ok,q _⟩)⟩
theorem LY(q:∀r,Q (vi r) z):lj G (eM .BitAnd) (vi i) (vi j) z Q:=⟨λ F m U ok=>λ a b ha hb O Z s W R K=>iU ha λ t=>iU hb λ u=>and_int (K _ _ _ (R.toks O) ⟨z,ok,q _⟩)⟩
theorem EZ{e:Expr}(hs:∀env,l7 [.Tuple [.Name x1 p1,.Name x2 p2,.Name x3 p3,.Name x4 p4] k6 tp] e pos.line env=dG false)(hw:∀env,ef [.Tuple [.Name x1 p1,.Name x2 p2,.Name x3 p3,.Name x4 p4] k6 tp] e env=dG none)
  (o1:eZ G x1=true) (o2:eZ G x2=true) (o3:eZ G x3=true) (o4:eZ G x4=true)
  (h:(Wk 9 G).e e m z (λ v z' =>∃D v1 v2 v3 v4,v=.ref D/\(∀U,z'.ok G U->U.rd D=some (.list [v1,v2,v3,v4]))/\QS .next (put (put (put (put m x1 v1) x2 v2) x3 v3) x4 v4) z')):jL G (.Assign [.Tuple [.Name x1 p1,.Name x2 p2,.Name x3 p3,.Name x4 p4] k6 tp] e pos) m z QS:=
 ⟨λ F U g ok=>λ O=>Gq (hs _) (hw _) rfl (((iQ 9).e h g ok).mono λ v U1 w=>by
  obtain ⟨z',Vj,D,v1,v2,v3,v4,rfl,hD,q⟩:=w
  exact ⟨D,_,rfl,hD _ Vj,rfl,ki (fE (dS g O o1) (ki (fE (dS g O o2) (ki (fE (dS g O o3) (ki (fE (dS g O o4) (yV ⟨_,z',ah (dA ..) (ah (dA ..) (ah (dA ..) (ah (dA ..) rfl))),Vj,q⟩))))))))⟩) O⟩
structure Mm(many i:Nat)(ls:List Int):Prop where
 len:ls.length=i
 rng:∀l∈ls,1<=l.natAbs/\l.natAbs<=many
theorem Mm.step{x:Int}(J:Mm many i ls)(h0:1<=x.natAbs)(h1:x.natAbs<=many):Mm many (i+1) (ls++[x]):=
 ⟨af av (ah J.len rfl),λ l hl=>(aw.mp hl).elim (J.rng l) λ q=>by rw [al.mp q];exact ⟨h0,h1⟩⟩
structure P4(ws:List Int)(i:Nat)(ys:List Value)(ds:List Int):Prop where
 e:ys=ds.map vi
 len:ds.length=i
 rng:∀(j:Nat) (d w:Int),ds[j]? =some d->ws[j]? =some w->0<=d/\d<w
theorem vA(hz:Zk zf)(hn:G.n=n+2)(hc:cells.length<=1000)(hk:k+4<=100000)(hm:1<=many)(Zm:many<=1000)
  (q:∀ls D i,2<=i->i<=3->Mm many i ls->Q (.ref D) (zf ((D,.tup (ls.map vi))::(fd,eN cl (k+4))::(cl,.list (cells.map vi))::E))):j4 G 234 [.ref fd,vn many] (zf ((fd,eN cl k)::(cl,.list (cells.map vi))::E)) Q:=by
 refine enter hn ["tape","many"] [.v (.ref fd),.v (vn many)] rfl rfl rfl (λ vs h=>by refine fg (j9 h) λ V V QL=>?_;subst QL;rfl) rfl ?_
 refine EZ (λ _=>rfl) (λ _=>rfl) rfl rfl rfl rfl ?_
 refine bk (show 4<=1000000 from by decide) λ T0=>?_
 rw [hz.new]
 refine .mk T0 _ [vn many,vi 2,vi 2,vi 8] (List Int) (λ ds=>zf ((T0,.tup [vn many,vi 2,vi 2,vi 8])::(fd,eN cl (k+ds.length))::(cl,.list (cells.map vi))::E)) (P4 [many,2,2,8]) [] rfl rfl (show 4<=1000000 from by decide) ⟨rfl,rfl,λ j d w h=>nomatch h⟩ cR (λ i ys ds U J k=>hz.see (.head _) k) (λ i ys ds v hv J _=>?_) λ ys ds J _ D=>?_
 ·obtain ⟨w,hw,rfl⟩:=eE (c:=[(many:Int),2,2,8]) hv
  have hw0:0<w:=by
   have:=am hw
   simp only [aL,dU,or_false] at this
   lia
  have hi:i<4:=(ag.mp hw).1
  have hl:=J.len
  refine nj rfl (hz.fdK (E' :=(T0,.tup [vn many,vi 2,vi 2,vi 8])::(fd,eN cl (k+ds.length+1))::(cl,.list (cells.map vi))::E) (.there .here) (.tail _ (.tail _ (.head _))) hc (by lia)) hw0 λ r h0 h1=>⟨ds++[r],⟨by rw [J.e,aD];rfl,by rw [av,hl];rfl,λ j d x hd hx=>?_⟩,by rw [av];exact cR⟩
  rcases pX j ds.length with h | h | h
  ·rw [bN h] at hd
   exact J.rng j d x hd hx
  ·subst h
   rw [bI (az _),gC] at hd
   rw [hl,hw] at hx
   obtain rfl:=aO hd
   obtain rfl:=aO hx
   exact ⟨h0,h1⟩
  ·rw [bI (aP h),bt (by show 1<=_;lia)] at hd
   cases hd
 ·rw [hz.new]
  have hl:ds.length=4:=J.len
  refine vf (Im hl) λ r0 r1 r2 r3 QW=>?_;subst QW
  have b0:=J.rng 0 r0 many rfl rfl
  have b1:=J.rng 1 r1 2 rfl rfl
  have b2:=J.rng 2 r2 2 rfl rfl
  obtain rfl:=J.e
  refine ⟨D,vi r0,vi r1,vi r2,vi r3,rfl,hz.list (.head _),?_⟩
  refine bk (bb _) λ F=>?_
  rw [hz.new]
  have b3:=J.rng 3 r3 8 rfl rfl
  obtain ⟨s,rfl⟩:∃s:Nat,r1=(s:Int):=⟨r1.toNat,(fy b1.1).symm⟩
  have hs2:s<2:=cM.mp b1.2
  refine (?_:lA _ (.type "range") [vi (2+(s:Int))] _ _)
  refine ah (show (2:Int)+(s:Int)=((2+s:Nat):Int) from by lia) (kh (show 2+s<=1000000 by lia) λ R=>?_)
  rw [hz.new]
  refine .mk R (.rng 0 (2+s)) (fi 0 (2+s)) (List Int) (λ _=>[("tape",.v (.ref fd)),("many",.v (vn many)),("v",.v (vi r0)),("step",.v (vi r2)),("signs",.v (vi r3)),("found",.v (.ref F))])
   (λ ls=>zf ((R,.rng 0 (2+s))::(F,.list (ls.map vi))::(D,.list [vi r0,vi (s:Int),vi r2,vi r3])::(T0,.tup [vn many,vi 2,vi 2,vi 8])::(fd,eN cl (k+4))::(cl,.list (cells.map vi))::E)) (Mm many) [] rfl rfl ⟨rfl,λ l h=>nomatch h⟩ rfl cR (λ i ls U J k=>hz.see (.head _) k) (λ i ls v hv J' _=>?_) λ ls J' _=>?_
  ·obtain ⟨hi,rfl⟩:=iC hv
   have hm0:(many:Int)≠0:=by lia
   refine qR (by lia) (yP hm0 ?_)
   obtain ⟨x,hx⟩:∃x,(1:Int)+(r0+(0+(i:Int))*(1+r2)).fmod (many:Int)=x:=⟨_,rfl⟩
   have hx1:1<=x/\x<=many:=by
    have h1:=xW (r0+(0+(i:Int))*(1+r2)) (show (0:Int)<many by lia)
    have h2:=Ed (r0+(0+(i:Int))*(1+r2)) (show (0:Int)<many by lia)
    lia
   have hll:(ls.map vi).length<=1000000:=by rw [ae,J'.len];lia
   refine bk (wY (hz.list (.tail _ (.head _)))) (LV (by lia) λ r=>LY λ r' =>?_)
   exact cD (λ _=>hz.app (.there .here) hll ⟨ls++[x],J'.step (by lia) (by lia),rfl,by rw [aD,<-hx];exact cR⟩) λ _=>hz.app (.there .here) hll ⟨ls++[0-x],J'.step (by lia) (by lia),rfl,by rw [aD,<-hx];exact cR⟩
  ·rw [dt] at J'
   refine n7 (hz.list (.tail _ (.head _))) (by rw [ae,J'.len];lia) λ Uu=>?_
   rw [hz.new]
   exact ⟨_,hz.sub (.cons_cons _ (.cons _ (.cons _ (.cons _ (.cons _ (.refl _)))))),λ _=>q ls Uu (2+s) (by lia) (by lia) J'⟩
end
end
section
noncomputable abbrev tB(bs:List Bool):aT:=.tup (bs.map .bool)
noncomputable def qm(ts:TL)(E:List (Addr×aT)):Prop:=∀e∈ts,(e.2,tB e.1)∈E
noncomputable def gL(ts:TL):List Value:=ts.map λ e=>bA e.2
noncomputable abbrev lT(ts:TL):aT:=.list (gL ts)
noncomputable def mT:Nat->List (List Bool)
 | 0=>[[]]
 | k+1=>(mT k).flatMap λ w=>[w++[false],w++[true]]
theorem n9:∀(k:Nat) (w:List Bool),w∈mT k->w.length=k
 | 0,w,h=>by simp [mT] at h;simp [h]
 | k+1,w,h=>by
  unfold mT at h
  refine aM (qr.mp h) λ v hv h=>?_
  have:=n9 k v hv
  rcases aL.mp h with rfl | h
  ·exact af av (ah this rfl)
  ·cases al.mp h;exact af av (ah this rfl)
theorem mG:∀k:Nat,(mT k).length=2^k
 | 0=>rfl
 | k+1=>by
  unfold mT
  refine af nG ?_
  have:∀l:List (List Bool),(l.map λ w=>[w++[false],w++[true]].length).sum=2*l.length:=λ l=>by
   induction l with
   | nil=>rfl
   | cons a r ih=>refine ah bc (af ut (ah ih ?_));simp;exact pZ _ _
  refine af (this ..) (ah (mG k) (ah (MG ..) ?_));exact N7
section
variable{C:Cx}{F:c_}{n:Nat}{m:Str->Option Value}{U U' :AH}{X:Sx}{P:Option (Addr×Ad×SS)}{E E' N:List (Addr×aT)}{a b:Addr}{o o' :aT}{ts us:TL}
theorem qm.mono(h:qm ts E)(hs:∀p∈E,p∈E'):qm ts E' :=λ e he=>hs _ (h e he)
theorem qm.app(h:qm ts E)(h' :qm us E):qm (ts++us) E:=λ e he=>(aw.mp he).elim (h e) (h' e)
theorem HS.snoc(H:HS P U (x::(E++N))):HS P U (E++(x::N)):=H.perm Et.symm
theorem oJ{i:Nat}(h:(gL ts)[i]? =some v):∃e,ts[i]? =some e/\v=.ref e.2:=by
 unfold gL at h
 replace h:=ay▸h
 exact aM (aQ.mp h) λ e h1 h2=>(cC e h1 h2.symm)
noncomputable def Ox(us:TL)(ws:List (List Bool))(P:Option (Addr×Ad×SS))(E:List (Addr×aT))(ys:List Value)(U:AH):Prop:=∃us N,HS P U (E++N)/\ys=gL us/\qm us (E++N)/\us.map (·.1)=ws
theorem Je{many:Nat}{Q:fH->(Str->Option Value)->AH->Prop}(hsc:sc={kind:=.function,names:=[(dH ".0",.local),(dH "one",.local),(dH "late",.local)],isGenerator:=false,isCoroutine:=false,more:=[]})
  (Sx:Stores F (aF "found")) (SW:iE (.ListComp (.BinOp (.Name "one" x1) .Add (.Tuple [.Name "late" x2] 0 x3) x4) [⟨.Name "one" x5,.Name "found" x6,[],0⟩,⟨.Name "late" x7,.Tuple [.Constant (.bool false) 0 x8,.Constant (.bool true) 0 x9] 0 y1,[],0⟩] sc y2) (some (.Name "found" y3)) y4.line F.env=dG true) (Sc:pR F sc)
  (H:HS P U E) (hf:m (aF "found")=some (.ref c)) (hc:(c,lT ts)∈E) (hT:qm ts E) (hl:∀e∈ts,e.1.length<=10) (hz:ts.length<=1000)
  (h:∀D us N U',HS P U' (E++N)->(D,lT us)∈N->qm us (E++N)->us.map (·.1)=(ts.map (·.1)).flatMap (λ w=>[w++[false],w++[true]])->Q .next (fe m (aF "found") (.ref D)) U'):
  W1 C F n (.Assign [.Name "found" y3] (.ListComp (.BinOp (.Name "one" x1) .Add (.Tuple [.Name "late" x2] 0 x3) x4) [⟨.Name "one" x5,.Name "found" x6,[],0⟩,⟨.Name "late" x7,.Tuple [.Constant (.bool false) 0 x8,.Constant (.bool true) 0 x9] 0 y1,[],0⟩] sc y2) y4) m U Q:=by
 subst hsc
 refine vP SW Sx Sc (λ V=>rfl) (d6 hf (.inl ⟨c,lT ts,gL ts,rfl,rfl,.inl (H.at_ hc),λ L2 mL=>(pq (λ i ys U=>Ox ts (((ts.map (·.1)).take i).flatMap λ w=>[w++[false],w++[true]]) P E ys U/\i<=ts.length) ⟨⟨[],[],ah (dh ..) H,rfl,λ e he=>(by cases he),rfl⟩,bb _⟩ (λ i ys U QI=>by refine aU QI λ Q7 V=>?_;clear QI;obtain ⟨us,N,H,_⟩:=Q7;exact .inl (H.at_ (ak _ hc))) ?_ ?_)⟩))
 ·intro i v ys U1 hv QL;refine aU QL λ Rf hi=>?_;clear QL;obtain ⟨us,N,H1,rfl,hu,UP⟩:=Rf
  refine aM (oJ hv) λ e he QT=>?_;subst QT
  have Tx:=am he
  refine fE ⟨rfl,rfl,.inl rfl⟩ ⟨mz rfl,(((⟨⟨rfl,λ V V=>rfl⟩,(nT (e_ (λ V=>rfl) (tW (e_ (λ V=>rfl) (tW (jW (Hm H1 (aH rfl) λ Tt QB H2=>?_)))))))⟩):(_/\∀_ _,_)/\_))⟩
  have hperm:∀N2:List (Addr×aT),(((Tt,aT.tup [.bool false,.bool true])::(E++N))++N2).Perm (E++(N++(Tt,aT.tup [.bool false,.bool true])::N2)):=λ N2=>ah List.cons_append (ah (dp ..) ((Et (l₁:=E++N) (l₂:=N2)).symm.trans (by rw [dp]) |>.trans (Qh _) |>(λ h=>by simpa [dp] using h)))
  refine ⟨Tt,_,_,rfl,rfl,λ j ys U=>Ox ts (us.map (·.1)++[e.1++[false],e.1++[true]].take j) P ((Tt,.tup [.bool false,.bool true])::(E++N)) ys U,⟨us,[],by rw [dh];exact H2,rfl,hu.mono λ p hp=>by rw [dh];exact .tail _ hp,by simp⟩,λ j ys U QW=>by refine ck QW λ us N H V=>?_;clear QW;exact .inl (H.at_ (.head _)),?_,?_⟩
  ·intro j v2 ys QG hv2 QY;refine jk QY λ UM N2 H3 Rd VG TF=>?_;clear QY;subst Rd
   have hj2:j<2:=(ag.mp hv2).1
   obtain ⟨bj,rfl,hbj⟩:∃bj:Bool,v2=.bool bj/\[e.1++[false],e.1++[true]].take (j+1)=[e.1++[false],e.1++[true]].take j++[e.1++[bj]]:=by
    match j,hv2 with
    | 0,h=>(try clear hv2);have Rb:=sI h;clear h;subst Rb;exact cC _ rfl rfl
    | 1,h=>(try clear hv2);have Q8:=sI h;clear h;subst Q8;exact cC _ rfl rfl
   refine fE ⟨rfl,rfl,.inl rfl⟩ ⟨λ z w hz=>?_,?_⟩
   ·unfold fe
    refine eH (λ ez=>?_) λ V=>?_
    ·subst ez
     unfold fe at hz
     rewrite [if_neg (by decide)] at hz
     unfold iJ at hz
     rewrite [if_neg (by decide)] at hz
     exact (bw hz).elim
    ·exact hz
   refine ol (G3 rfl (?_:EL _ _ _ _ _ _ _ _))
   have hul:UM.length<=3000:=by
    have h1:=congrArg fh TF
    have h2:=congrArg fh UP
    replace h1:=ce▸(ae ..)▸av▸(ae ..)▸h1
    replace h2:=nG▸(ae ..)▸h2
    have h3:∀l:List (List Bool),(l.map λ w=>[w++[false],w++[true]].length).sum=2*l.length:=λ l=>by
     induction l with
     | nil=>rfl
     | cons a r ih=>refine ah bc (af ut (ah ih ?_));simp;exact pZ _ _
    replace h2:=(ae ..)▸ce▸(h3 ..)▸h2
    exact N6 hj2 h2 h1 hz
   refine ⟨by unfold gL;exact ah (ae ..) (ac hul (aj _ _)),?_⟩
   refine DF (d6 rfl (nT (e_ (λ V=>rfl) (d6 rfl (jW (Hm H3 (aH rfl) λ B U4 H4=>?_))))))
   have hew:(e.2,tB e.1)∈(B,aT.tup [.bool bj])::((Tt,aT.tup [.bool false,.bool true])::(E++N)++N2):=.tail _ (ak _ (.tail _ (ak _ (hT e Tx))))
   have fin:∀D N3 U5,HS P U5 ((Tt,aT.tup [.bool false,.bool true])::(E++N)++N3)->(∀p∈N2,p∈N3)->(D,tB (e.1++[bj]))∈N3->Ox ts (us.map (·.1)++[e.1++[false],e.1++[true]].take (j+1)) P ((Tt,.tup [.bool false,.bool true])::(E++N)) (gL UM++[.ref D]) U5:=λ D N3 U5 H5 hs hD=>
    ⟨UM++[(e.1++[bj],D)],N3,H5,by simp [gL],(VG.mono λ p hp=>(aw.mp hp).elim (λ h=>ak _ h) λ h=>ai _ (hs p h)).app λ q hq=>ah (al.mp hq) (ai _ hD),af aD (ah TF (ah hbj (af (dp ..) rfl)))⟩
   refine EN (H4.tup hew) (H4.tup (.head _)) (by simp) (by have:=hl e Tx;refine ah (ae ..) ?_;simp;exact ac this (aj _ _)) (λ h0=>?_) λ D hD=>?_
   ·have VW:e.1=[]:=AN.mp h0
    exact fin B ((B,aT.tup [.bool bj])::N2) U4 H4.snoc (λ p hp=> .tail _ hp) (ah VW (.head _))
   ·refine fin D ((D,tB (e.1++[bj]))::(B,aT.tup [.bool bj])::N2) _ (HS.snoc ?_) (λ p hp=> .tail _ (.tail _ hp)) (.head _)
    have H5:=H4.snoc.fresh (o:=tB (e.1++[bj])) hD
    have ev:(e.1.map gj++[gj bj])=(e.1++[bj]).map gj:=ah aD rfl
    exact ah ev H5
  ·intro ys QG Rc;refine jk Rc λ UM N2 H3 Rn VG TF=>?_;clear Rc;subst Rn
   refine ⟨⟨UM,N++(Tt,aT.tup [.bool false,.bool true])::N2,H3.perm (hperm N2),rfl,VG.mono λ p hp=>(hperm N2).mem_iff.mp hp,?_⟩,(ag.mp he).1⟩
   rw [TF,UP,ba,ay,he,List.flatMap_append]
   rfl
 ·intro ys U1 Rp D hD;refine aU Rp λ Rm V=>?_;clear Rp;obtain ⟨us,N,H1,rfl,hu,UP⟩:=Rm
  have hlen:(gL ts).length=ts.length:=ae ..
  rw [hlen,fK (by rw [ae];exact az _)] at UP
  exact h D us ((D,lT us)::N) _ (HS.snoc (H1.fresh hD)) (.head _) (hu.mono λ p hp=>(aw.mp hp).elim (λ h=>ak _ h) λ h=>ai _ (.tail _ h)) UP
noncomputable abbrev oh:=List (List Int×Addr)
noncomputable def Ow(cs:oh)(E:List (Addr×aT)):Prop:=∀e∈cs,(e.2,aT.tup (e.1.map vi))∈E
noncomputable def cq(cs:oh):List Value:=cs.map λ e=>bA e.2
noncomputable def pL(cs:oh)(bs:List Bool):Bool:=cs.all λ e=>e.1.any (gz bs)
theorem rY{i:Nat}(h:(cq cs)[i]? =some v):∃e,cs[i]? =some e/\v=.ref e.2:=by
 unfold cq at h
 replace h:=ay▸h
 exact aM (aQ.mp h) λ e h1 h2=>(cC e h1 h2.symm)
end
end
section
section
variable{C:Cx}{F:c_}{n:Nat}{m:Str->Option Value}{U U' :AH}{X:Sx}{P:Option (Addr×Ad×SS)}{E E' N:List (Addr×aT)}{a b:Addr}{o o' :aT}{ts us:TL}
end
end
section
section
variable{n:Nat}{U U' :AH}{X:Sx}{A:Ad}{S:SS}{me:Addr}{E E' N:List (Addr×aT)}{a b:Addr}{o o' :aT}{ts us:TL}
end
noncomputable def Eg(k:Nat)(w:Nat->Bool):List Bool:=(cV k).map λ i=>w (i+1)
theorem Ew(w:Nat->Bool)(h1:1<=v)(h2:v<=k):(Eg k w).getD (v-1) false=w v:=by
 unfold Eg
 exact af bJ (ah ay (ah (gG (pp h1 h2)) (((ah (ic h1) rfl):w (v-1+1)=w v))))
theorem uM(w:Nat->Bool)(h1:1<=l.natAbs)(h2:l.natAbs<=k):gz (Eg k w) l=AR w l:=by
 unfold gz AR
 exact ah (Ew w h1 h2) rfl
theorem Bj:∀(k:Nat) (w:Nat->Bool),Eg k w∈mT k
 | 0,w=>by simp [Eg,mT]
 | k+1,w=>by
  have ih:=Bj k w
  unfold mT
  refine qr.mpr ⟨_,ih,?_⟩
  have:Eg (k+1) w=Eg k w++[w (k+1)]:=by
   unfold Eg
   exact ah l_ (af aD rfl)
  refine ah this ?_
  cases w (k+1)<;>simp
noncomputable def O0(bs:List Bool):Nat->Bool:=λ v=>bs.getD (v-1) false
end
section
section
variable{C:Cx}{F:c_}{n k:Nat}{m:Str->Option Value}{U U' :AH}{X:Sx}{P:Option (Addr×Ad×SS)}{E E' N:List (Addr×aT)}{a b:Addr}{o o' :aT}{ts us:TL}
theorem HS.ne(H:HS P U ((a,o)::E))(h:(b,q)∈E):b≠a:=λ e=>(bp.mp H.nd).1 (aJ.mpr ⟨_,h,e⟩)
theorem BL:∀(x y:List Bool),((cV (min x.length y.length)).all (λ j=>x.getD j false==y.getD j false)&&x.length==y.length)=decide (x=y):=λ x y=>by
 by_cases h:x=y
 ·subst h;simp
 ·refine ah (decide_eq_false h) (io Bool.and_eq_false_iff ?_)
  by_cases hl:x.length=y.length
  ·left
   refine pJ.mpr λ hall=>h ?_
   replace hall:=(MH ..)▸hl▸hall;rewrite [bV] at hall
   refine List.ext_getElem hl λ i h1 h2=>?_
   have:=cG (hall i (cE.mpr h2))
   replace this:=aA h2▸aA h1▸bJ▸bJ▸this
   exact this
  ·right;simpa using hl
theorem pE.tB(ha:U.rd a=some (tB x))(hb:U.rd b=some (tB y))(hne:a≠b):pE C U (k+3) (.ref a) (.ref b) (decide (x=y)):=by
 have:=pE.tups (C:=C) (k:=k) (e:=λ j=>x.getD j false==y.getD j false) ha hb hne λ j u v hu hv=>by
  rw [ay] at hu hv
  refine aM (aQ.mp hu) λ p hp QI=>?_;subst QI
  refine aM (aQ.mp hv) λ q hq QL=>?_;subst QL
  exact ah bJ (ah bJ (ah hp (ah hq (pE.bools p q))))
 replace this:=(BL ..)▸(ae ..)▸(ae ..)▸this
 exact this
noncomputable def JG(td:TL)(ch:List Bool)(v:Value):Bool:=td.any λ t=>(match v with | .ref a=>a==t.2 | _=>false)&&decide (t.1=ch)
theorem wX(H:HS P U E)(hT:qm ts E)(ht:t∈ts):JG ts ch (.ref t.2)=decide (t.1=ch):=by
 unfold JG
 by_cases h:t.1=ch
 ·exact ah (decide_eq_true h) (dj.mpr ⟨t,ht,by simp [h]⟩)
 ·refine ah (decide_eq_false h) (pJ.mpr λ hany=>(aM (dj.mp hany) λ u hu q=>?_))
  simp only [dk,beq_iff_eq,decide_eq_true_eq] at q
  have e:=H.same (hT t ht) (ah q.1 (hT u hu))
  have e2:t.1.map gj=u.1.map gj:=by injection e
  have e3:t.1=u.1:=(List.map_inj_right (λ x y h=>by injection h)).mp e2
  exact h (e3.trans q.2)
theorem Gc(H:HS P U E)(hT:qm ts E):(gL ts).any (JG ts ch)=decide (ch∈ts.map (·.1)):=by
 unfold gL
 refine af lE ?_
 by_cases h:ch∈ts.map (·.1)
 ·refine ah (decide_eq_true h) (aM (aJ.mp h) λ t ht QT=>?_);subst QT
  exact dj.mpr ⟨t,ht,by refine ((af (wX H hT ht) ?_):JG ts t.1 (.ref t.2)=true);simp⟩
 ·refine ah (decide_eq_false h) (pJ.mpr λ hany=>(aM (dj.mp hany) λ t ht q=>?_))
  have q' :JG ts ch (.ref t.2)=true:=q
  replace q' :=wX H hT ht▸q'
  exact h (of_decide_eq_true q' ▸bf ht)
theorem CN{Q:Value->AH->Prop}(H:HS P U E)(hl:(l,lT ts)∈E)(hT:qm ts E)(hD:(D,aT.tup (ch.map gj))∈E)(hne:∀t∈ts,t.2≠D)(h:Q (.bool (decide (ch∈ts.map (·.1)))) U):iK C F (n+1) (a_ .In) (.ref D) (.ref l) m U (qe Q):=by
 refine pA (xs:=gL ts) (e:=JG ts ch) (H.lst hl) (λ y hy=>?_) (ah (Gc H hT) h)
 refine aM (aJ.mp hy) λ t ht QY=>?_;subst QY
 exact ah (wX H hT ht) (pE.tB (H.tup (hT t ht)) (H.tup hD) (hne t ht))
theorem xi{Q:Value->AH->Prop}(h1:U.rd l1=some (.list xs))(h2:U.rd l2=some (.list []))(h:Q (.bool (!xs.isEmpty)) U):iK C F (n+1) (a_ .NotEq) (.ref l1) (.ref l2) m U (qe Q):=λ a' b' e1 e2 O Z s W R K=>by
 refine ah (dJ e1) (ah (dJ e2) (ck (R.at h1) λ vs c hv hx=>?_))
 (try clear h1);refine ck (R.at h2) λ ws c' hw hy=>?_
 have hu:=O.units
 have hws:ws=[]:=AN.mp hy
 clear hy;subst hws
 have hlen:vs.length=xs.length:=dw hx
 by_cases hz:xs=[]
 ·have Uo:vs=[]:=d7 (af hlen (ah hz rfl))
  clear hlen hx;subst Uo
  refine eT (mZ (e:=λ V=>true) ⟨_,hv,rfl,_,rfl⟩ ⟨_,hw,rfl,_,rfl⟩ rfl (au (aB _ _) hu) λ j h1 h2=>absurd h1 (mN _)) (K _ _ _ R ?_)
  replace h:=hz▸h;exact h
 ·refine eT (Em ⟨_,hv,rfl,_,rfl⟩ ⟨_,hw,rfl,_,rfl⟩ (by refine ah bo (ah bo (ah hlen ?_));clear h hlen hx;cases xs with | nil=>exact absurd rfl hz | cons x r=>rfl) (au (aB _ _) hu)) (K _ _ _ R ?_)
  have:xs.isEmpty=false:=by clear h hlen hx;cases xs with | nil=>exact absurd rfl hz | cons x r=>rfl
  replace h:=this▸h;exact h
end
end
section
section
variable{C:Cx}{F:c_}{n k:Nat}{m:Str->Option Value}{U U' :AH}
theorem pE.ints(a b:Int):pE C U k (vi a) (vi b) (a==b):=λ F Z s m R v w e1 e2 A hu=>iU e1 λ t=>iU e2 λ u=>Hz a t b u
theorem CP{e:Nat->Bool}{Q:Value->AH->Prop}(h1:U.rd l1=some (.list xs))(h2:U.rd l2=some (.list ys))(hl:xs.length=ys.length)(he:∀j x y,xs[j]? =some x->ys[j]? =some y->pE C U 6 x y (e j))(h:Q (.bool ((cV xs.length).all e)) U):
  iK C F (n+1) (a_ .Eq) (.ref l1) (.ref l2) m U (qe Q):=λ a' b' e1 e2 O Z s W R K=>by
 rw [dJ e1,dJ e2]
 obtain ⟨vs,c,hv,hx⟩:=R.at h1
 obtain ⟨ws,c',hw,hy⟩:=R.at h2
 have hu:=O.units
 have hi:=u6 F.A
 have hlen:vs.length=xs.length:=dw hx
 have hlen2:ws.length=ys.length:=dw hy
 refine pF (Hv (e:=e) ⟨_,hv,rfl,_,rfl⟩ ⟨_,hw,rfl,_,rfl⟩ (by simp [hlen,hlen2,hl]) (au (aB _ _) hu) λ j q1 q2=>?_) (K _ _ _ R ?_)
 ·have Vz :j<vs.length:=by simpa using q1
  have q2' :j<ws.length:=by simpa using q2
  refine he j (er vs[j]) (er ws[j]) (by rw [<-hx,ay,aA Vz];rfl) (by rw [<-hy,ay,aA q2'];rfl) F Z s m R _ _ (by simp) (by simp) _ (by lia)
 ·rw [show vs.toArray.size=xs.length by simp [hlen]]
  exact h
theorem xl{Q:Value->AH->Prop}(h1:U.rd l1=some (.list xs))(h2:U.rd l2=some (.list ys))(hl:xs.length≠ys.length)(h:Q (.bool false) U):
  iK C F (n+1) (a_ .Eq) (.ref l1) (.ref l2) m U (qe Q):=λ a' b' e1 e2 O Z s W R K=>by
 rw [dJ e1,dJ e2]
 obtain ⟨vs,c,hv,hx⟩:=R.at h1
 obtain ⟨ws,c',hw,hy⟩:=R.at h2
 have hu:=O.units
 have hlen:vs.length=xs.length:=dw hx
 have hlen2:ws.length=ys.length:=dw hy
 exact pF (Hu ⟨_,hv,rfl,_,rfl⟩ ⟨_,hw,rfl,_,rfl⟩ (by simp [hlen,hlen2,hl]) (au (aB _ _) hu)) (K _ _ _ R h)
theorem vm{Q:Value->AH->Prop}(h1:U.rd l1=some (.list xs))(h2:U.rd l2=some (.list xs))(hr:∀x∈xs,∃a,x=.ref a)(h:Q (.bool false) U):
  iK C F (n+1) (a_ .NotEq) (.ref l1) (.ref l2) m U (qe Q):=λ a' b' e1 e2 O Z s W R K=>by
 rw [dJ e1,dJ e2]
 obtain ⟨vs,c,hv,hx⟩:=R.at h1
 obtain ⟨ws,c',hw,hy⟩:=R.at h2
 have hu:=O.units
 have hi:=u6 F.A
 have hlen:vs.length=xs.length:=dw hx
 have hlen2:ws.length=xs.length:=dw hy
 refine eT (mZ (e:=λ V=>true) ⟨_,hv,rfl,_,rfl⟩ ⟨_,hw,rfl,_,rfl⟩ (by simp [hlen,hlen2]) (au (aB _ _) hu) λ j q1 q2=>?_) (K _ _ _ R ?_)
 ·have Vz :j<vs.length:=by simpa using q1
  have q2' :j<ws.length:=by simpa using q2
  have x1:xs[j]? =some (er vs[j]):=by rw [<-hx,ay,aA Vz];rfl
  have x2:xs[j]? =some (er ws[j]):=by rw [<-hy,ay,aA q2'];rfl
  obtain ⟨a,ha⟩:=hr _ (am x1)
  have e2:er ws[j]=.ref a:=by rw [x1] at x2;rw [<-aO x2,ha]
  exact pE.same (C:=C) (U:=U) (k:=6) a F Z s m R _ _ (by simpa using ha) (by simpa using e2) _ (by lia)
 ·have:(!((cV vs.toArray.size).all λ V=>true))=false:=by simp
  rw [this];exact h
end
section
variable{G:Gx}{n:Nat}{z:Zs}{Q:VQ}{l1 l2:Addr}{xs ys:List Value}
theorem Df{e:Nat->Bool}(hn:G.n=n+1)(h1:∀U,z.ok G U->U.rd l1=some (.list xs))(h2:∀U,z.ok G U->U.rd l2=some (.list ys))(hl:xs.length=ys.length)(he:∀U,z.ok G U->∀j x y,xs[j]? =some x->ys[j]? =some y->pE (CX G.X) U 6 x y (e j))(q:Q (.bool ((cV xs.length).all e)) z):lj G (a_ .Eq) (.ref l1) (.ref l2) z Q:=
 ⟨λ F m U k=>ah hn (CP (h1 U k) (h2 U k) hl (he U k) ⟨z,k,q⟩)⟩
theorem F8(hn:G.n=n+1)(h1:∀U,z.ok G U->U.rd l1=some (.list xs))(h2:∀U,z.ok G U->U.rd l2=some (.list ys))(hl:xs.length≠ys.length)(q:Q (.bool false) z):lj G (a_ .Eq) (.ref l1) (.ref l2) z Q:=
 ⟨λ F m U k=>ah hn (xl (h1 U k) (h2 U k) hl ⟨z,k,q⟩)⟩
theorem yS(hn:G.n=n+1)(h1:∀U,z.ok G U->U.rd l1=some (.list xs))(h2:∀U,z.ok G U->U.rd l2=some (.list []))(q:Q (.bool xs.isEmpty) z):lj G (a_ .Eq) (.ref l1) (.ref l2) z Q:=by
 cases xs with
 | nil=>exact Df (e:=λ _=>true) hn h1 h2 rfl (λ U k j x y h=>nomatch h) q
 | cons x r=>exact F8 hn h1 h2 (λ h=>nomatch h) q
theorem lX(hn:G.n=n+1)(h1:∀U,z.ok G U->U.rd l1=some (.list xs))(h2:∀U,z.ok G U->U.rd l2=some (.list []))(q:Q (.bool (!xs.isEmpty)) z):lj G (a_ .NotEq) (.ref l1) (.ref l2) z Q:=
 ⟨λ F m U k=>ah hn (xi (h1 U k) (h2 U k) ⟨z,k,q⟩)⟩
theorem C_(hn:G.n=n+1)(h1:∀U,z.ok G U->U.rd l1=some (.list xs))(h2:∀U,z.ok G U->U.rd l2=some (.list xs))(hr:∀x∈xs,∃a,x=.ref a)(q:Q (.bool false) z):lj G (a_ .NotEq) (.ref l1) (.ref l2) z Q:=
 ⟨λ F m U k=>ah hn (vm (h1 U k) (h2 U k) hr ⟨z,k,q⟩)⟩
theorem F6(q:Q (.bool true) z):lA G (.builtin "isinstance") [.bool b,.type "bool"] z Q:=⟨λ F m U ok=>λ QE e O Z s W R K=>by
 obtain ⟨x,y,rfl,ex,ey⟩:=mY e
 refine Ei ex ?_
 cases y<;>cases ey
 exact MD (K _ _ _ R ⟨z,ok,q⟩)⟩
theorem yR(q:Q (.bool false) z):lA G (.builtin "isinstance") [.bool b,.type "tuple"] z Q:=⟨λ F m U ok=>λ QE e O Z s W R K=>by
 obtain ⟨x,y,rfl,ex,ey⟩:=mY e
 refine Ei ex ?_
 cases y<;>cases ey
 exact MC (K _ _ _ (R.toks O) ⟨z,ok,q⟩)⟩
theorem F5(q:Q (.bool false) z):lA G (.builtin "isinstance") [.none,.type "bool"] z Q:=⟨λ F m U ok=>λ QE e O Z s W R K=>by
 obtain ⟨x,y,rfl,ex,ey⟩:=mY e
 refine LH ex ?_
 cases y<;>cases ey
 exact ME (K _ _ _ (R.toks O) ⟨z,ok,q⟩)⟩
theorem F4(h:∀U,z.ok G U->U.rd a=some (.tup xs))(q:Q (.bool false) z):lA G (.builtin "isinstance") [.ref a,.type "bool"] z Q:=⟨λ F m U ok=>λ QE e O Z s W R K=>by
 obtain ⟨x,y,rfl,ex,ey⟩:=mY e
 refine jz ex ?_
 cases y<;>cases ey
 obtain ⟨vs,c,hv,hx⟩:=R.at (h U ok)
 exact MB hv rfl (K _ _ _ (R.toks O) ⟨z,ok,q⟩)⟩
theorem yQ(h:∀U,z.ok G U->U.rd a=some (.tup xs))(q:Q (.bool true) z):lA G (.builtin "isinstance") [.ref a,.type "tuple"] z Q:=⟨λ F m U ok=>λ QE e O Z s W R K=>by
 obtain ⟨x,y,rfl,ex,ey⟩:=mY e
 refine jz ex ?_
 cases y<;>cases ey
 obtain ⟨vs,c,hv,hx⟩:=R.at (h U ok)
 exact MA hv rfl (K _ _ _ R ⟨z,ok,q⟩)⟩
theorem I4{x:Value}{k:Nat}(h:∀U,z.ok G U->U.rd a=some (.list [x]))(hk:k<=1000000)(q:∀D,Q (.ref D) (z.new D (.list (im k x)))):lj G (eM .Mult) (.ref a) (vn k) z Q:=⟨λ F m U ok=>λ a' b' ea eb O Z s W R K=>by
 rw [dJ ea]
 refine iU eb λ t=>?_
 obtain ⟨vs,c,hv,hx⟩:=R.at (h U ok)
 obtain ⟨mL,FR⟩:=R.fr
 obtain ⟨v,rfl,ev⟩:=qV hx
 refine mul_list FR R.news (items:=#[v]) (k:=c) hv (by lia) (by lia) (by simp;lia) λ h' F' N' =>?_
 have hp:=N' _ (.head _)
 have hrep:∀(k:Nat) (QD:Array Value),Na (λ x1 x2=>x1++x2) QD (im k #[v])=QD++(im k v).toArray:=by
  intro k
  induction k with
  | zero=>intro QD;simp
  | succ k ih=>
   intro QD
   rw [AM,en,ih,AM]
   apply Array.ext'
   simp
 have hob:h'.get? s.heap.objs.size=some (listOf (im k v).toArray 0):=by
  have h1:=hp.1
  rw [show (if (#[v]:Array Value).isEmpty=true then 0 else ((k:Int)).toNat)=k by simp,hrep,Array.empty_append] at h1
  exact h1
 have hD:=R.fresh R.size_none
 refine K _ _ (U.put s.heap.objs.size (.list (im k x))) (R.back O FR ⟨R.core.gens,R.core.os,R.core.dr⟩ F' (λ _=>False) (λ _ h=>h.elim) (λ p hp _=>(N' p (.tail _ hp)).1) λ a o e=>?_) ⟨_,jd ok hD,q _⟩
 rw [AH.get_put] at e
 split at e
 ·rename_i ea;subst ea
  cases e
  exact .inr ⟨.inr ⟨λ p hp=>bu (bz (R.news p hp).1),R.top O⟩,⟨⟨_,hp.1⟩,hp.2.1,hp.2.2⟩,im k v,0,hob,by rw [List.map_replicate,ev]⟩
 ·exact .inl ⟨e,id⟩⟩
end
end
section
section
variable{prog:Program}{w:nD}{A:dY}{E:Value->aE->Prop}{s:aE}
theorem zH{a:Addr}{xs:Array Value}{k:Nat}{sl:Array (Option Value)}{Q:Option Value->aE->Prop}(hx:s.heap.get? a=some {cls:=.type "list",dict:=none,data:=.seq xs k,slots:=sl})(hA:A.handled=none)
  (h:∀h' tk,(∀b o,s.heap.get? b=some o->h'.get? b=some o)->Q none {s with heap:=h',toks:=tk}):br (bL prog w) A (getAttr? (.ref a) "keys") Q E s:=by
 obtain ⟨hp,g,d,tk,os⟩:=s
 have hT:∀Ss,(⟨hp,g,d,Ss,os⟩:aE).TypeIs (.ref a) "list":=λ _=>⟨_,hx,rfl⟩
 have f1:=sub_AttributeError
 have f3:=iA.lookup
 have f4:=iA.bind (.ref a)
 have f5:=am_list_getattr_none
 have hmiss:xK (.type "list") "keys"=dG none:=am_miss_of_fast (by kernel_rfl)
 unfold getAttr? getAttrBy? getAttrBy
 repeat (any_goals (first | assumption | exact hT _ | ((with_reducible show br _ _ (call (Value.builtin "list.__getattribute__") _ _) _ _ _);refine Jz iA (hT _) am_entry_list_getattribute (PySem.F.args_list_getattribute_2 _ _) (meets_getattribute_miss_list a xs k sl "keys" _ hmiss (by decide+kernel) (by decide+kernel)) ⟨hx,hA,λ h' Ss e hx' =>?_⟩) | wp_step))
 obtain ⟨t',u',he⟩:=hx'.there
 show br _ _ (Jw _ _ _ _ _ _ _) _ _ _
 unfold Jw
 repeat (any_goals (first | assumption | wp_step))
 exact h _ _ hx'.keeps
noncomputable def nX(ks:List Int)(kvs:List (Int×Value)):List (Int×Value):=ks.foldl (λ kvs k=>cW kvs k (.bool true)) kvs
noncomputable def DK(h:fT)(x:Value)(k:Int):Prop:=∃t tk n,x=.ref t/\h.get? t=some (wu #[.int k tk,.bool true] n)
theorem jI:entryFor table "dict.update.loop"=some fM.«dict.update.loop»:=Mx (by kernel_rfl)
theorem fQ:plainId "dict.update.loop"=true:=by decide+kernel
theorem O5{h:fT}{knd:KeyKind prog w Int}{kvs:List (Int×Value)}(hD:h.DictOf knd D kvs)(ht:h.get? t=some (wu xs n)):t≠D:=λ e=>by
 obtain ⟨o,es,ep,a,_,hd,_⟩:=hD
 rw [<-e,ht] at a
 rw [<-aO a] at hd
 cases hd
theorem Kd{h:fT}{i:Nat}(hit:h.IsListIter it l i)(ht:h.get? t=some (wu xs n)):t≠it:=λ e=>by
 obtain ⟨o,a,_,hd⟩:=hit
 rw [<-e,ht] at a
 rw [<-aO a] at hd
 cases hd
theorem zZ{D it l:Addr}{items:Array Value}{R:rh->aE->Prop}(hA:A.handled=none)(V0:D≠it)(hli:l≠it)(W6:l≠D):
  ∀(ks:List Int) (i:Nat) (Vx:Tok) (s:aE) (kvs:List (Int×Value)),items.size=i+ks.length->s.heap.IsListIter it l i->s.heap.IsList l items->
   (∀j k,ks[j]? =some k->∃x,items[i+j]? =some x/\DK s.heap x k)->s.heap.DictOf (eR prog w) D kvs->kvs.length+ks.length<=sizeLine->
   (∀h' tk,(∀b o,b≠D->b≠it->s.heap.get? b=some o->h'.get? b=some o)->h'.DictOf (eR prog w) D (nX ks kvs)->R (.ok (.ret .none)) {s with heap:=h',toks:=tk})->
   ij (bL prog w) A (.builtin "dict.update.loop" ⟨[.ref D,.ref it,.int i Vx,.none],[]⟩) R s:=by
 intro ks
 induction ks with
 | nil=>
  intro i Vx s kvs hsz hit hl hp hD hz hR
  refine vX jI ?_
  rw [wh fQ _]
  show br _ _ (xL (.ref it)>>=_) _ _ s
  refine ax (om hA hit hl (by rw [Array.getElem?_eq_none_iff,hsz];exact az _) λ h' he=>?_)
  show br _ _ (Ni D []>>=λ _=>ret Value.none) _ _ _
  refine ax (aZ (aZ ?_))
  obtain ⟨o,es,ep,a,r⟩:=hD
  exact hR h' s.toks (λ b o _ hb e=>he b o hb e) ⟨o,es,ep,he _ _ V0 a,r⟩
 | cons k r ih=>
  intro i Vx s kvs hsz hit hl hp hD hz hR
  obtain ⟨x,hx,t,tk,n,rfl,VI⟩:=hp 0 k rfl
  refine vX jI ?_
  rw [wh fQ _]
  show br _ _ (xL (.ref it)>>=_) _ _ s
  refine ax (nw hit hl hx λ QC Tb Rx=>?_)
  have hne:t≠D/\t≠it:=⟨O5 hD VI,Kd hit VI⟩
  have hto1:QC.get? t=some (wu #[.int k tk,.bool true] n):=(Rx.2 _ hne.2).trans VI
  show br _ _ (eS [bA t] _>>=_) _ _ _
  refine ax (bR ?_)
  have hT:(⟨QC,s.gens,s.drawn,s.toks,s.os⟩:aE).TypeIs (.ref t) "tuple":=⟨_,hto1,rfl⟩
  refine ax (wpAny_tryCatch (ax (nu hT ?_)))
  show br _ _ (seqItems? (.ref t)>>=_) _ _ _
  refine ax (wpAny_seqItems hto1 rfl (aZ ?_))
  show br _ _ (eS [Value.int k tk,gj true] (Qb D (.int k tk) (.bool true))) _ _ _
  refine bR ?_
  unfold Qb
  refine bR ?_
  refine ax ((eR prog w).pyHash (k:=k) (intKind_is _ _ _ _) ?_)
  have hD1:QC.DictOf (eR prog w) D kvs:=by
   obtain ⟨o,es,ep,a,r⟩:=hD
   exact ⟨o,es,ep,(Rx.2 _ V0).trans a,r⟩
  rw [bF] at hsz hz
  refine wpAny_dictSetHashed_pairs (s:={s with heap:=QC,toks:=s.toks+1}) (intKind_is _ _ _ _) hD1 (λ QP Vh SE=>?_) (by lia)
  have hk:∀b o,b≠D->b≠it->s.heap.get? b=some o->QP.get? b=some o:=λ b o hb hi e=>(SE.2 _ hb).trans ((Rx.2 _ hi).trans e)
  have hln:l≠D:=W6
  refine aZ ⟨AD fQ _,ih (i+1) _ _ _ (by lia) ?_ ?_ (λ j k' hj=>?_) Vh ?_ ?_⟩
  ·obtain ⟨o,a,b⟩:=Tb
   exact ⟨o,(SE.2 _ V0.symm).trans a,b⟩
  ·obtain ⟨o,a,b⟩:=hl
   exact ⟨o,hk _ _ W6 hli a,b⟩
  ·obtain ⟨x,hx,t',Ss,n',rfl,h'⟩:=hp (j+1) k' hj
   refine ⟨_,(show items[i+1+j]? =_ from (by rw [iS,pZ 1 j];exact hx)),t',Ss,n',rfl,hk _ _ ?_ ?_ h'⟩
   ·exact O5 hD h'
   ·exact Kd hit h'
  ·have:(cW kvs k (.bool true)).length<=kvs.length+1:=by
    unfold cW
    split
    ·rw [ae];lia
    ·rw [av];exact az _
   show _<=_
   lia
  ·intro h' Ss hf hd
   exact hR h' Ss (λ b o hb hi e=>hf b o hb hi (hk b o hb hi e)) hd
theorem pP{l:Addr}{items:Array Value}{ks:List Int}{Q:Value->aE->Prop}(hA:A.handled=none)(hl:s.heap.get? l=some (listOf items n))(hsz:items.size=ks.length)(hp:∀(j:Nat) (k:Int),ks[j]? =some k->∃x,items[j]? =some x/\DK s.heap x k)(hz:ks.length<=sizeLine)
  (h:∀D h' tk,s.heap.objs.size<=D->(∀b o,b<s.heap.objs.size->s.heap.get? b=some o->h'.get? b=some o)->h'.DictOf (eR prog w) D (nX ks [])->Q (.ref D) {s with heap:=h',toks:=tk}):
  br (bL prog w) A (call (.type "dict") [.ref l]) Q E s:=by
 refine callType_codes (Q₁:=λ gB s₁=>gB=.ref s.heap.objs.size/\s₁={s with heap:=s.heap.push {cls:=.type "dict",data:=.dict #[]}}) F.kt_called_dict (F.kt_typeCall_dict_1 _) F.entry_dict_init (PySem.kt_code_dict_new _ ⟨rfl,rfl⟩) ?_
 rintro gB s₁ ⟨rfl,rfl⟩
 have hnew:(s.heap.push {cls:=.type "dict",data:=.dict #[]}).DictOf (eR prog w) s.heap.objs.size []:=iB s.heap
 have hl' :(s.heap.push {cls:=.type "dict",data:=.dict #[]}).get? l=some (listOf items n):=aW _ hl
 have hll:=bz hl
 refine ⟨hnew.typeIs,F.args_dict_init_2 _ _,?_⟩
 unfold fM.«dict.__init__»
 refine ax ?_
 unfold Nh
 refine ax (oo hnew.typeIs ?_)
 show br _ _ (dG (s.heap.objs.size,[bA l])) _ _ _
 refine aZ ?_
 show br _ _ (qb "dict.__init__" s.heap.objs.size (.ref l) [] .none) _ _ _
 unfold qb
 refine ax (nu (T:="list") ⟨_,hl',rfl⟩ ?_)
 rw [if_pos (by decide)]
 have hD0:(s.heap.push {cls:=.type "dict",data:=.dict #[]}).get? s.heap.objs.size=some {cls:=.type "dict",data:=.dict #[]}:=cf _ rfl
 refine ax (zH (s:={s with heap:=s.heap.push {cls:=.type "dict",data:=.dict #[]}}) hl' hA λ QC Xk QF=>?_)
 have hD1:=QF _ _ hD0
 have Ti:=QF _ _ hl'
 show br _ _ (rule _>>=λ _=>xM (.ref l)>>=_) _ _ _
 refine ax (nv (ax (rI (items:=items) ⟨_,Ti,rfl,_,rfl⟩ ?_)))
 have kp:∀b o,QC.get? b=some o->(QC.push {cls:=.type "list_iterator",data:=.fields #[.ref l,.int 0 0]}).get? b=some o:=λ b o e=>aW _ e
 refine aZ ⟨AD fQ _,zZ (A:=A.in1) (l:=l) (items:=items) hA (bu (bz hD1)) (bu (bz Ti)) (bu hll) ks 0 0 _ [] (by lia) ⟨_,cf _ rfl,rfl,rfl⟩ ⟨_,kp _ _ Ti,rfl,_,rfl⟩ (λ j k hj=>?_) ?_ (by show 0+_<=_;lia) ?_⟩
 ·obtain ⟨x,hx,t,tk,n',rfl,h'⟩:=hp j k hj
  exact ⟨_,(show items[0+j]? =_ from (by rw [l8];exact hx)),t,tk,n',rfl,kp _ _ (QF _ _ (aW _ h'))⟩
 ·obtain ⟨o,es,ep,a,r⟩:=hnew
  exact ⟨o,es,ep,kp _ _ (QF _ _ a),r⟩
 ·intro h' Ss hf hd
  exact ⟨rfl,h _ h' Ss (az _) (λ b o hb e=>hf b o (bu hb) (bu (aq hb (aP (au (b_ (by have:=bz hD1;lia)) (bz hD1))))) (kp _ _ (QF _ _ (aW _ e)))) hd⟩
end
end
section
section
variable{G:Gx}{n:Nat}{z:Zs}{Q:VQ}{l1 l2:Addr}{xs ys:List Value}
theorem vG{ps:List Value}{ks:List Int}(h:∀U,z.ok G U->U.rd a=some (.list ps))(hl:ps.length=ks.length)(hp:∀U,z.ok G U->∀(j:Nat) (k:Int),ks[j]? =some k->∃t,ps[j]? =some (.ref t)/\U.rd t=some (.tup [vi k,.bool true]))(hz:ks.length<=1000000)
  (q:∀D,Q (.ref D) (z.new D (.dict (nX ks [])))):lA G (.type "dict") [.ref a] z Q:=⟨λ F m U ok=>λ QE e O Z s W R K=>by
 refine aR e ?_
 obtain ⟨vs,c,hv,hx⟩:=R.at (h U ok)
 have hlen:=dw hx
 refine pP (items:=vs.toArray) (ks:=ks) O.handled hv (by simp;lia) (λ j k hj=>?_) (ac hz (by decide)) λ D h' tk hD hk hd=>?_
 ·obtain ⟨t,ht,hr⟩:=hp U ok j k hj
  obtain ⟨us,c',hu,hu'⟩:=R.at hr
  rw [<-hx,ay] at ht
  obtain ⟨v,RP,ev⟩:=aQ.mp ht
  have:=dJ ev
  subst this
  obtain ⟨x,y,rfl,ex,ey⟩:=mY hu'
  have hy:y=.bool true:=by cases y<;>cases ey;rfl
  subst hy
  obtain ⟨t1,rfl⟩:∃t1,x=.int k t1:=by
   cases x<;>cases ex
   exact ⟨_,rfl⟩
  exact ⟨_,by simpa using RP,t,t1,c',rfl,hu⟩
 ·have hn:s.heap.get? D=none:=by
   cases q:s.heap.get? D with
   | none=>rfl
   | some o=>exact absurd (bz q) (fp.mpr hD)
  have hD3:3<D:=aq (R.top O) hD
  refine K _ _ (U.put D (.dict (nX ks []))) (R.new O ⟨R.core.gens,R.core.os,R.core.dr⟩ (λ b o e=>hk b o (bz e) e) hn hD3 ⟨_,hd,?_⟩) ⟨_,jd ok (R.fresh hn),q D⟩
  have:∀(ks:List Int) (kvs:List (Int×Value)),kvs.map (λ p=>(p.1,er p.2))=kvs->(nX ks kvs).map (λ p=>(p.1,er p.2))=nX ks kvs:=by
   intro ks
   induction ks with
   | nil=>exact λ kvs h=>h
   | cons k r ih=>
    intro kvs h
    refine ih _ ?_
    show ln _ (cW kvs k (.bool true))=cW kvs k (.bool true)
    unfold cW
    split
    ·rw [bC]
     have hk:∀p∈kvs,(p.1,er p.2)=p:=by
      intro p hp
      obtain ⟨i,hi,e⟩:=yZ.mp hp
      have h2:(kvs.map λ p=>(p.1,er p.2))[i]'(by rw [ae];exact hi)=kvs[i]:=by simp only [h]
      rw [List.getElem_map] at h2
      rw [<-e];exact h2
     apply dF
     intro p hp
     simp only [Ee]
     split
     ·rfl
     ·exact hk p hp
    ·rw [aD,h];rfl
  exact this ks [] rfl⟩
end
end
section
section
variable{G:Gx}{A A' :Ad}{S S' :SS}{E E' N:List (Addr×aT)}{n:Nat}{z z' :Zs}{Q:VQ}{ts us:TL}{a w:Addr}{ls:List Int}{bs:List Bool}
noncomputable def Az(G:Gx)(A:Ad)(S:SS)(E:List (Addr×aT))(a:Addr)(ls:List Int):Prop:=∀U,Zs.ok G (.s A S E) U->U.rd a=some (.tup (ls.map vi))
theorem Az.sub(h:Az G A S E a ls)(hs:E.Sublist E'):Az G A S E' a ls:=λ U k=>h U (gR hs U k)
theorem jf(p:Int->Bool)(ls:List Int):(!((ls.filter p).map vi).isEmpty)=ls.any p:=by
 induction ls with
 | nil=>rfl
 | cons l r ih=>
  rw [bG,uu,<-ih]
  cases p l<;>rfl
theorem yM(hn:G.n=n+2)(hw:(w,tB bs)∈E)(ha:Az G A S E a ls)(hr:∀l∈ls,1<=l.natAbs/\l.natAbs<=bs.length)(hz:bs.length<=1000)(hlz:ls.length<=1000000)(q:Q (.bool (ls.any (gz bs))) (.s A S E)):j4 G 239 [.ref w,.ref a] (.s A S E) Q:=by
 refine enter hn ["world","literals"] [.v (.ref w),.v (.ref a)] rfl rfl rfl (λ vs h=>by refine fg (j9 h) λ V V QL=>?_;subst QL;rfl) rfl ?_
 refine .mk a (.tup (ls.map vi)) (ls.map vi) Unit (λ _=> .s A S E) (λ i ys _=>ys=((ls.take i).filter (gz bs)).map vi) () rfl rfl (by rw [ae];exact hlz) rfl cR (λ i ys _ U _ k=> .inr (ha U k)) (λ i ys _ v hv hys _=>?_) λ ys _ hys _ D=>?_
 ·obtain ⟨l,hl,rfl⟩:=eE hv
  have SY:=hr l (am hl)
  have hg:(bs.map gj)[((l.natAbs:Int)-1).toNat]? =some (.bool (bs.getD (l.natAbs-1) false)):=ah (show ((l.natAbs:Int)-1).toNat=l.natAbs-1 from vY _ 1) (af ay (ah bJ (ah (aA (pp SY.1 SY.2)) rfl)))
  refine De (gg hw) (gv (bY.mpr SY.1)) (ah (ae ..) (ac hz (by decide))) hg (eq_bool ?_)
  have htk:ls.take (i+1)=ls.take i++[l]:=by rw [ba,hl];rfl
  refine ⟨λ hb=>⟨(),?_,cR⟩,λ hb=>⟨(),?_,cR⟩⟩
  ·rw [hys,htk,cN,aD,bG,if_pos (show gz bs l=true from hb)];rfl
  ·rw [hys,htk,cN,aD,bG,if_neg (by rw [show gz bs l=false from hb];decide)];simp
 ·rw [ae,aX] at hys
  subst hys
  refine bk (bb _) λ D2=>?_
  refine lX rfl (aY (.tail _ (.head _))) (aY (.head _)) ?_
  rw [jf]
  exact ⟨_,zj,λ _=>q⟩
noncomputable def q9(G:Gx)(A:Ad)(S:SS)(E:List (Addr×aT))(cs:oh):Prop:=∀e∈cs,Az G A S E e.2 e.1
theorem q9.sub{cs:oh}(h:q9 G A S E cs)(hs:E.Sublist E'):q9 G A S E' cs:=λ e he=>(h e he).sub hs
structure xI(many:Nat)(cs:oh):Prop where
 z:cs.length<=100000
 r:∀e∈cs,e.1.length<=1000000/\∀l∈e.1,1<=l.natAbs/\l.natAbs<=many
structure PY(E:List (Addr×aT))(ts:TL)(cs:oh)(i:Nat)(p:TL×Addr×List (Addr×aT)):Prop where
 eq:p.1=ts.filter λ e=>pL (cs.take i) e.1
 mem:(p.2.1,lT p.1)∈p.2.2++E
 new:0<i->(p.2.1,lT p.1)∈p.2.2
theorem uR{cs:oh}{c:List Int×Addr}{b:List Bool}:pL (cs++[c]) b=(pL cs b&&c.1.any (gz b)):=by
 unfold pL;rw [List.all_append];simp
theorem tG{cs:oh}(hn:G.n=n+3)(hm:many<=1000)(hl:(w,lT ts)∈E)(hT:qm ts E)(ht:∀e∈ts,e.1.length=many)(htz:ts.length<=1000000)(hc:∀U,Zs.ok G (.s A S E) U->U.rd a=some (.list (cq cs)))(hC:q9 G A S E cs)(hk:xI many cs)
  (q:∀D N,(D,lT (ts.filter λ e=>pL cs e.1))∈N++E->(cs≠[]->(D,lT (ts.filter λ e=>pL cs e.1))∈N)->Q (.ref D) (.s A S (N++E))):j4 G 249 [.ref w,.ref a] (.s A S E) Q:=by
 refine enter hn ["worlds","clauses"] [.v (.ref w),.v (.ref a)] rfl rfl rfl (λ vs h=>by refine fg (j9 h) λ V V QL=>?_;subst QL;rfl) rfl ?_
 have hrc:(cq cs).length=cs.length:=ae ..
 refine .mk a (.list (cq cs)) (cq cs) (TL×Addr×List (Addr×aT)) (λ p=>[("worlds",.v (.ref p.2.1)),("clauses",.v (.ref a))]) (λ p=> .s A S (p.2.2++E)) (PY E ts cs) (ts,w,[]) rfl rfl ⟨?_,hl,λ h=>absurd h (bP _)⟩ rfl cR (λ i p U J k=> .inr (hc U (gR (cy _ _) U k))) (λ i p v hv J _=>?_) λ p J _=>?_
 ·refine (gH.mpr λ e _=>?_).symm
  simp [pL]
 ·obtain ⟨c,UB,rfl⟩:=rY hv
  have hcm:=am UB
  obtain ⟨hcz,hcr⟩:=hk.r c hcm
  obtain ⟨us,D,N⟩:=p
  obtain ⟨e1,hD,_⟩:=J
  dsimp only at e1 hD
  have husub:∀e∈us,e∈ts:=λ e he=>by rw [e1] at he;exact (bE.mp he).1
  have hlu:us.length<=ts.length:=by rw [e1];exact eU _ _
  refine .mk D (lT us) (gL us) Unit (λ _=> .s A S (N++E)) (λ j ys _=>ys=gL ((us.take j).filter λ e=>c.1.any (gz e.1))) () rfl rfl (by rw [show (gL us).length=us.length from ae ..];exact ac hlu htz) rfl cR (λ j ys _ U _ k=>eA hD k) (λ j ys _ v hv hys _=>?_) λ ys _ hys _ b=>?_
  ·obtain ⟨e,he,rfl⟩:=oJ hv
   have Tx:=am he
   have UR:=ht e (husub e Tx)
   have htk:us.take (j+1)=us.take j++[e]:=by rw [ba,he];rfl
   refine yM rfl (ai _ (hT e (husub e Tx))) ((hC c hcm).sub (cy _ _)) (by rw [UR];exact hcr) (by rw [UR];exact hm) hcz ⟨λ hb=>⟨(),?_,cR⟩,λ hb=>⟨(),?_,cR⟩⟩
   ·rw [hys,htk,cN,bG,if_pos hb];unfold gL;rw [aD];rfl
   ·rw [hys,htk,cN,bG,if_neg (by rw [hb];decide)];simp
  ·rw [show (gL us).length=us.length from ae ..,aX] at hys
   subst hys
   refine ⟨(us.filter λ e=>c.1.any (gz e.1),b,(b,lT (us.filter λ e=>c.1.any (gz e.1)))::N),⟨?_,.head _,λ _=> .head _⟩,rfl,cR⟩
   have htk:cs.take (i+1)=cs.take i++[c]:=by rw [ba,UB];rfl
   show us.filter _=_
   rw [e1,AX,htk]
   refine kq λ e _=>?_
   rw [uR,JE]
 ·obtain ⟨us,D,N⟩:=p
  obtain ⟨e1,hD,hnew⟩:=J
  dsimp only at e1 hD hnew
  rw [hrc] at e1 hnew
  rw [aX] at e1
  subst e1
  exact gA (q D N hD λ h=>hnew (nF.mpr h))
end
end
section
section
variable{G:Gx}{A A' :Ad}{S S' :SS}{E E' N:List (Addr×aT)}{n:Nat}{z z' :Zs}{Q:VQ}{QS:SQ}{ts us:TL}{a w:Addr}{ls:List Int}{bs:List Bool}
noncomputable def LR:Scope:={kind:=.function,names:=[(dH ".0",.local),(dH "one",.local),(dH "late",.local)],isGenerator:=false,isCoroutine:=false,more:=[]}
theorem Kh(hsc:sc=LR)(hk:G.nm.lookup (aF "found")=some .local)(hs:pe G sc "one"=true)(hy:(y3.line==y2.line)=true)
  (hf:m.lookup (aF "found")=some (.v (.ref c))) (hc:(c,lT ts)∈E) (hT:qm ts E) (hl:∀e∈ts,e.1.length<=10) (hz:ts.length<=1000)
  (q:∀D us N,(D,lT us)∈N->qm us (N++E)->us.map (·.1)=(ts.map (·.1)).flatMap (λ w=>[w++[false],w++[true]])->QS .next (put m (aF "found") (.ref D)) (.s A S (N++E))):
  jL G (.Assign [.Name "found" y3] (.ListComp (.BinOp (.Name "one" x1) .Add (.Tuple [.Name "late" x2] 0 x3) x4) [⟨.Name "one" x5,.Name "found" x6,[],0⟩,⟨.Name "late" x7,.Tuple [.Constant (.bool false) 0 x8,.Constant (.bool true) 0 x9] 0 y1,[],0⟩] sc y2) y4) m (.s A S E) QS:=
 ⟨λ F U g (T:St G.me A S U E)=>λ O=>by
  have ho:eZ G (aF "found")=true:=by unfold eZ;exact ah hk rfl
  have H:HS (some (G.me,A,S)) U E:=T
  refine Je (P:=some (G.me,A,S)) (many:=0) hsc (dS g O ho) (congrArg dG (?hb:(F.env.blockKind==.function&&F.env.kindOf _==some .local&&y3.line==y2.line&& !(sc.names.any λ(n,k)=>n==aF "found"&&(k==.local || k==.cell)))=true)) (pb g O hs).ok H (mq hf) hc hT hl hz (λ D us N U' H' hD hu e=>?_) O
  case hb=>exact ah g.blk (ah (g.kind _ _ hk (by decide)) (ah hy (ah hsc rfl)))
  have T' :St G.me A S U' (E++N):=H'
  exact ah (dA ..) ⟨_,.s A S (N++E),rfl,T'.perm List.perm_append_comm,q D us N hD (λ e he=>aw.mpr (aw.mp (hu e he)).symm) e⟩⟩
structure PT(R:Addr)(many:Nat)(E:List (Addr×aT))(i:Nat)(p:TL×Addr×List (Addr×aT)):Prop where
 mem:(p.2.1,lT p.1)∈p.2.2
 all:qm p.1 (p.2.2++E)
 eq:p.1.map (·.1)=mT i
 rng:(R,aT.rng 0 many)∈p.2.2
 le:i<=many
theorem I0{cs:oh}(hn:G.n=n+4)(hm:many<=5)(hc:∀U,Zs.ok G (.s A S E) U->U.rd a=some (.list (cq cs)))(hC:q9 G A S E cs)(hk:xI many cs)
  (q:∀D ts N,(cs≠[]->(D,lT ts)∈N)->qm ts (N++E)->ts.map (·.1)=(mT many).filter (pL cs)->Q (.ref D) (.s A S (N++E))):j4 G 244 [vn many,.ref a] (.s A S E) Q:=by
 refine enter hn ["many","clauses"] [.v (vn many),.v (.ref a)] rfl rfl rfl (λ vs h=>by refine fg (j9 h) λ V V QI=>?_;subst QI;rfl) rfl ?_
 refine bk (bb _) λ T0=>(bk (aH rfl) λ D0=>(kh (ac hm (by decide)) λ R=>(.mk R (.rng 0 many) (fi 0 many) (TL×Addr×List (Addr×aT)) (λ p=>[("found",.v (.ref p.2.1)),("clauses",.v (.ref a))]) (λ p=> .s A S (p.2.2++E)) (PT R many E) ([([],T0)],D0,[(R,.rng 0 many),(D0,.list [.ref T0]),(T0,.tup [])]) rfl rfl ⟨.tail _ (.head _),λ e he=>?_,rfl,.head _,bb _⟩ rfl cR (λ i p U J k=>eA (ak _ J.rng) k) ?_ ?_)))
 ·exact ah (al.mp he) (.tail _ (.tail _ (.head _)))
 ·intro i p v hv J _
  refine aU (iC hv) λ hi QL=>?_;clear QL
  have hlen:p.1.length=2^i:=by rw [<-ae (f:=(·.1)),J.eq,mG]
  have hpw:2^i<=2^5:=iX (by decide) (aP (aq hi hm))
  refine Kh rfl rfl rfl rfl rfl (ak _ J.mem) J.all (λ e he=>?_) (ac (aC hlen) (ac hpw (aj _ _))) λ D us N hD hu e=>⟨(us,D,N++p.2.2),⟨ak _ hD,ah (dp ..) hu,af e (ah J.eq rfl),ai _ J.rng,hi⟩,rfl,gR (ah (dp ..) (.refl _))⟩
  have:=n9 i e.1 (dI J.eq (bf he))
  exact aP (aq (ya this hi) (ac hm (aj _ _)))
 ·intro p J _
  have hts:=J.eq
  have hD:=J.mem
  have hT:=J.all
  replace hts:=(dt ..)▸hts
  obtain ⟨ts,D,N⟩:=p
  dsimp only at hts hD hT
  have hlen:ts.length=2^many:=by rw [<-ae (f:=(·.1)),hts,mG]
  have hpw:2^many<=2^5:=iX (by decide) hm
  have hbl:∀e∈ts,e.1.length=many:=λ e he=>n9 many e.1 (dI hts (bf he))
  have hs:E.Sublist (N++E):=cy _ _
  refine (?_:j4 _ 249 [.ref D,.ref a] (.s A S (N++E)) _)
  refine tG rfl (ac hm (by decide)) (ak _ hD) hT hbl (by rw [hlen];exact ac hpw (by decide)) (λ U k=>hc U (gR hs U k)) (hC.sub hs) hk λ D' N' _ UF =>?_
  have ha:N' ++(N++E)=(N' ++N)++E:=(dp ..).symm
  rw [ha]
  refine gA (q D' _ (N' ++N) (λ h=>ak _ (UF h)) (λ e he=>?_) ?_)
  ·rw [dp];exact ai _ (hT e (bE.mp he).1)
  ·rw [<-hts,i9];rfl
end
end
section
noncomputable def lq(Re c:List Int):List Int:=c.filter λ l=> !(Re.contains (-l))
theorem nP{Re c:List Int}{l:Int}:l∈lq Re c↔l∈c/\-l∉Re:=by
 unfold lq;refine bE.trans (and_congr_right λ V=>?_);simp
structure Ay(Cl:List (List Int))(Re:List Int):Prop where
 ne:∀c∈Cl,lq Re c≠[]
 un:∀c∈Cl,∀l,(∀x∈lq Re c,x=l)->l∈Re
 pr:∀l∈Re,-l∉Re
theorem Ay.clo{Cl:List (List Int)}{Re c:List Int}(T:Ay Cl Re)(hc:c∈Cl):clo (λ l=>l∈Re) c:=λ l k=>by
 have hall:∀x∈lq Re c,x=l:=λ x hx=>dP λ e=>(nP.mp hx).2 (k x (nP.mp hx).1 e)
 refine ⟨?_,T.un c hc l hall⟩
 cases e:lq Re c with
 | nil=>exact absurd e (T.ne c hc)
 | cons y ys=>
  have hy:y∈lq Re c:=e▸List.mem_cons_self
  exact hall y hy▸(nP.mp hy).1
theorem Ay.wl{Cl lg:List (List Int)}{Re:List Int}(T:Ay (Cl++lg) Re):Wl Cl lg (λ l=>l∈Re):=
 ⟨λ l a b=>T.pr l a b,λ c hc=>T.clo (ak _ hc),λ c hc=>T.clo (ai _ hc)⟩
theorem fY.clash{Cl lg:List (List Int)}{Re c:List Int}{k:Nat}(L:fY N Cl lg)(hk:lg[k]? =some c)(h0:∀x∈c,-x∈Re)(T:Ay (Cl++lg.take k) Re):False:=(L k c hk).2 _ T.wl h0
theorem fY.world{Cl:List (List Int)}{w:Nat->Bool}:∀{lg:List (List Int)},fY N Cl lg->(∀c∈Cl,clo (Lw w) c)->Wl Cl lg (Lw w):=by
 intro lg L hc
 have step:∀k,k<=lg.length->Wl Cl (lg.take k) (Lw w):=λ k=>by
  induction k with
  | zero=>exact λ V=>⟨yG w,hc,λ c h=>by rw [HC] at h;cases h⟩
  | succ k ih=>
   intro hk
   have hl:k<lg.length:=hk
   have hg:=aA hl
   have W:=ih (aP hl)
   rw [ba,hg]
   exact Wl.snoc.mpr ⟨W,tF (λ x hx=>nz ((L k _ hg).1.2 x hx)) λ q=>(L k _ hg).2 _ W q⟩
 have:=step lg.length (az _)
 rwa [aX] at this
end
section
theorem vh:∀(g f:List Int),nX g (jZ f)=jZ (g.foldl iN f)
 | [],f=>rfl
 | k::r,f=>by
  show nX r (cW (jZ f) k (.bool true))=_
  rw [lH,vh r];rfl
noncomputable def lits(many:Nat):List Int:=(cV many).flatMap λ(i:Nat)=>[(i:Int)+1,-((i:Int)+1)]
theorem u0{l:Int}(h:1<=l.natAbs/\l.natAbs<=many):l∈lits many:=by
 refine qr.mpr ⟨l.natAbs-1,cE.mpr (by lia),?_⟩
 simp only [aL,dU,or_false]
 lia
theorem CL{p q:Int->Bool}(h:∀x,q x=true->p x=true):∀L:List Int,(L.filter q).length<=(L.filter p).length/\((∃x∈L,p x=true/\q x=false)->(L.filter q).length<(L.filter p).length)
 | []=>⟨az _,λ⟨x,hx,_⟩=>nomatch hx⟩
 | a::r=>by
  obtain ⟨h1,h2⟩:=CL h r
  rw [bG,bG]
  cases hq:q a with
  | true=>
   rw [h a hq,if_pos rfl,if_pos rfl,bF,bF]
   refine ⟨cw h1,λ⟨x,hx,hp,hqx⟩=>ly (h2 ?_)⟩
   rcases aL.mp hx with rfl | hx
   ·rw [hq] at hqx;cases hqx
   ·exact ⟨x,hx,hp,hqx⟩
  | false=>
   rw [if_neg (by decide)]
   cases hp:p a with
   | true=>
    rw [if_pos rfl,bF]
    exact ⟨Er h1,λ _=>eh h1⟩
   | false=>
    rw [if_neg (by decide)]
    refine ⟨h1,λ⟨x,hx,hpx,hqx⟩=>h2 ?_⟩
    rcases aL.mp hx with rfl | hx
    ·rw [hp] at hpx;cases hpx
    ·exact ⟨x,hx,hpx,hqx⟩
noncomputable def mu(many:Nat)(f:List Int):Nat:=((lits many).filter λ l=> !(f.contains l)).length
theorem Ke{f:List Int}{l:Int}(h:1<=l.natAbs/\l.natAbs<=many)(hn:l∉f):mu many (f++[l])<mu many f:=by
 refine (CL (λ x hx=>?_) _).2 ⟨l,u0 h,by simpa using hn,by simp⟩
 simp only [b9,y7,decide_eq_false_iff_not,aw,not_or] at hx⊢
 exact hx.1
theorem GV(f:List Int):mu many f<=2*many:=by
 refine ac (eU _ _) ?_
 unfold lits
 rw [nG]
 have:∀L:List Nat,(L.map λ(i:Nat)=>[(i:Int)+1,-((i:Int)+1)].length).sum=2*L.length:=λ L=>by
  induction L with
  | nil=>rfl
  | cons a r ih=>rw [bc,ut,ih];simp;lia
 rw [this,pH];exact az _
noncomputable def Qt(cs:oh)(f:List Int):Prop:=∀c∈cs,lq f c.1≠[]/\∀l,(∀x∈lq f c.1,x=l)->l∈f
structure Pi(cs:oh)(hs:List Int)(many C:Nat)(p:List Int×Bool):Prop where
 sub:∀h∈hs,h∈p.1
 len:p.1.length+mu many p.1<=C
 qt:p.2=false->Qt cs p.1
structure Gz(cs:oh)(hs:List Int)(many C:Nat)(f0:List Int)(i:Nat)(p:List Int×Bool):Prop where
 sub:∀h∈hs,h∈p.1
 len:p.1.length+mu many p.1<=C
 qt:p.2=false->p.1=f0/\Qt (cs.take i) p.1
 lt:p.2=true->mu many p.1<mu many f0
theorem Gz.fin(J:Gz cs hs many C f0 cs.length p):Pi cs hs many C p/\2*mu many p.1+(if p.2 then 1 else 0)<2*mu many f0+1:=by
 refine ⟨⟨J.sub,J.len,λ h=>by have:=(J.qt h).2;rwa [aX] at this⟩,?_⟩
 cases h:p.2 with
 | true=>have:=J.lt h;rw [if_pos rfl];lia
 | false=>rw [(J.qt h).1,if_neg (by decide)];lia
theorem Gz.same{c:List Int×Addr}(J:Gz cs hs many C f0 i p)(hc:cs[i]? =some c)(h1:lq p.1 c.1≠[])(h2:∀l,(∀x∈lq p.1 c.1,x=l)->l∈p.1):Gz cs hs many C f0 (i+1) p:=by
 refine ⟨J.sub,J.len,λ h=>⟨(J.qt h).1,λ c' RQ =>?_⟩,J.lt⟩
 rw [ba,hc] at RQ
 rcases aw.mp RQ with q | q
 ·exact (J.qt h).2 c' q
 ·rw [al.mp q];exact ⟨h1,h2⟩
theorem Gz.grow{l:Int}(J:Gz cs hs many C f0 i p)(hl:1<=l.natAbs/\l.natAbs<=many)(hn:l∉p.1):Gz cs hs many C f0 (i+1) (p.1++[l],true):=by
 have hm:=Ke hl hn
 have h3:=J.len
 refine ⟨λ h hh=>ak _ (J.sub h hh),?_,(λ h=>nomatch h),λ _=>?_⟩
 ·show (p.1++[l]).length+mu many (p.1++[l])<=C
  rw [av];simp;lia
 ·show mu many (p.1++[l])<_
  cases h:p.2 with
  | true=>exact bD hm (J.lt h)
  | false=>rw [(J.qt h).1] at hm⊢;exact hm
section
variable{G:Gx}{A A' :Ad}{S S' :SS}{E E' N:List (Addr×aT)}{n:Nat}{z z' :Zs}{Q:VQ}{QS:SQ}{ts us:TL}{a w h:Addr}{ls hs:List Int}{bs:List Bool}
noncomputable abbrev Nm(p:List (Int×Addr)):List (Addr×aT):=p.map λ e=>(e.2,aT.tup [vi e.1,.bool true])
theorem Af{cs:oh}(hn:G.n=n+2)(ha:∀U,Zs.ok G (.s A S E) U->U.rd a=some (.list (cq cs)))(hC:q9 G A S E cs)(hk:xI many cs)(hm:many<=1000)
  (hh:∀U,Zs.ok G (.s A S E) U->U.rd h=some (.list (hs.map vi))) (hz:hs.length<=1000)
  (hU:∀f,(∀h∈hs,h∈f)->Ay (cs.map (·.1)) f->False) (q:Q (.bool true) (.s A S E)):j4 G 254 [.ref a,.ref h] (.s A S E) Q:=by
 refine enter hn ["clauses","held"] [.v (.ref a),.v (.ref h)] rfl rfl rfl (λ vs h=>by refine fg (j9 h) λ V V QI=>?_;subst QI;rfl) rfl ?_
 refine .mk h (.list (hs.map vi)) (hs.map vi) (List (Int×Addr)) (λ p=> .s A S (Nm p++E)) (λ i ys p=>p.reverse.map (·.1)=hs.take i/\ys=p.reverse.map λ e=>bA e.2) [] rfl rfl (by rw [ae];lia) ⟨rfl,rfl⟩ cR (λ i ys p U _ k=> .inr (hh U (gR (cy _ _) U k))) (λ i ys p v hv J _=>?_) λ ys p J _ D=>?_
 ·obtain ⟨l,hl,rfl⟩:=eE hv
  refine ⟨aH rfl,λ D=>⟨(l,D)::p,⟨?_,?_⟩,cR⟩⟩
  ·rw [gb,aD,J.1,ba,hl];rfl
  ·rw [gb,aD,J.2];rfl
 ·rw [ae,aX] at J
  obtain ⟨J1,J2⟩:=J
  have hlp:ys.length=hs.length:=by rw [J2,ae,<-J1,ae]
  refine vG (ks:=hs) (aY (.head _)) hlp (λ U k j x hx=>?_) (by lia) λ H=>?_
  ·rw [<-J1,ay] at hx
   obtain ⟨e,he,rfl⟩:=aQ.mp hx
   refine ⟨e.2,by rw [J2,ay,he];rfl,?_⟩
   exact gg (.tail _ (ak _ (aJ.mpr ⟨e,gw.mp (am he),rfl⟩))) U k
  ·rw [show nX hs []=jZ (hs.foldl iN []) from vh hs []]
   have hf0:=mJ hs []
   rw [fR,l8] at hf0
   refine (?_:kL _ _ _ _ _ (.s A S ((H,.dict (jZ (hs.foldl iN [])))::(D,aT.list ys)::(Nm p++E))))
   generalize hE0:(D,aT.list ys)::(Nm p++E)=E0
   have hsE:E.Sublist E0:=hE0▸(cy _ _).cons _
   have hln:(hs.foldl iN []).length+mu many (hs.foldl iN [])<=hs.length+2*many:=di hf0 (GV _)
   refine .mk (List Int×Bool) (λ p=>[("clauses",.v (.ref a)),("held",.v (.ref H)),("goes_on",.v (.bool p.2))]) (λ p=> .s A S ((H,.dict (jZ p.1))::E0)) (Pi cs hs many (hs.length+2*many)) (λ p=>2*mu many p.1+(if p.2 then 1 else 0)) (hs.foldl iN [],true) ⟨λ h hh=>mH.mpr (.inr hh),hln,(λ h=>nomatch h)⟩ rfl cR (λ p J ok=>?_)
   obtain ⟨f,g⟩:=p
   cases g with
   | true=>
    refine cT ?_
    have hrc:(cq cs).length=cs.length:=ae ..
    refine .mk a (.list (cq cs)) (cq cs) (List Int×Bool) (λ p=>[("clauses",.v (.ref a)),("held",.v (.ref H)),("goes_on",.v (.bool p.2))]) (λ p=> .s A S ((H,.dict (jZ p.1))::E0)) (Gz cs hs many (hs.length+2*many) f) (f,false) rfl rfl ⟨J.sub,J.len,λ _=>⟨rfl,λ c hc=>nomatch hc⟩,(λ h=>nomatch h)⟩ rfl cR (λ i p U J k=> .inr (ha U (gR (hsE.cons _) U k))) (λ i p v hv J' _=>?_) λ p J' _=>?_
    ·obtain ⟨c,UB,rfl⟩:=rY hv
     obtain ⟨f',g'⟩:=p
     have hcm:=am UB
     have hsc:=hC c hcm
     obtain ⟨hcz,hcr⟩:=hk.r c hcm
     refine .mk c.2 (.tup (c.1.map vi)) (c.1.map vi) Unit (λ _=> .s A S ((H,.dict (jZ f'))::E0)) (λ j ys _=>ys=(lq f' (c.1.take j)).map vi) () rfl rfl (by rw [ae];exact hcz) rfl cR (λ j ys _ U _ k=> .inr (hsc U (gR (hsE.cons _) U k))) (λ j ys _ v hv hys _=>?_) λ ys _ hys _ L=>?_
     ·obtain ⟨l,hl,rfl⟩:=eE hv
      have htk:c.1.take (j+1)=c.1.take j++[l]:=by rw [ba,hl];rfl
      have e0:(0:Int)-l=-l:=xU l
      refine tM (jc (.head _)) ⟨λ hb=>⟨(),?_,cR⟩,λ hb=>⟨(),?_,cR⟩⟩
      ·rw [e0] at hb
       rw [hys,htk];unfold lq
       rw [cN,aD,bG,if_pos (show (!(f'.contains (-l)))=true by simpa using hb)];rfl
      ·rw [e0] at hb
       rw [hys,htk];unfold lq
       rw [cN,aD,bG,if_neg (show¬(!(f'.contains (-l)))=true by simpa using hb)];simp
     ·rw [ae,aX] at hys
      subst hys
      have hlz:(lq f' c.1).length<=1000000:=ac (eU _ _) hcz
      have hlm:∀l∈lq f' c.1,1<=l.natAbs/\l.natAbs<=many:=λ l hl=>hcr l (nP.mp hl).1
      refine bk (bb _) λ L0=>yS rfl (aY (.tail _ (.head _))) (aY (.head _)) ?_
      cases hl:lq f' c.1 with
      | nil=>exact cT ⟨_,gR (hsE.trans (.cons _ (.cons _ (.cons _ (.refl _))))),λ _=>q⟩
      | cons x r=>
       rw [hl] at hlz hlm
       have hlz' :((x::r).map vi).length<=1000000:=by rw [ae];exact hlz
       refine cF (gq (j:=0) (aY (.tail _ (.head _))) hlz' rfl (bk (aH rfl) λ D1=>gp (aY (.tail _ (.tail _ (.head _)))) (ae ..) hlz (I4 (aY (.head _)) hlz λ D2=>Df (e:=λ j=>(x::r).getD j 0==x) rfl (aY (.tail _ (.tail _ (.tail _ (.head _))))) (aY (.head _)) (by rw [ae,List.length_replicate]) (λ U k j u v hu hv=>?_) ?_)))
       ·obtain ⟨l,hl',rfl⟩:=eE hu
        rw [List.getElem?_replicate] at hv
        split at hv
        ·obtain rfl:=aO hv
         rw [show ((x::r).getD j 0==x)=(l==x) by rw [bJ,hl'];rfl]
         exact pE.ints l x
        ·cases hv
       ·have hB:((cV ((x::r).map vi).length).all λ j=>(x::r).getD j 0==x)=true->∀y∈x::r,y=x:=λ h y hy=>by
         obtain ⟨j,hj,e⟩:=yZ.mp hy
         have:=bV.mp h j (cE.mpr (by rw [ae];exact hj))
         rw [bJ,aA hj] at this
         rw [<-e];exact cG this
        have hB2:((cV ((x::r).map vi).length).all λ j=>(x::r).getD j 0==x)=false->∀l,¬∀y∈x::r,y=l:=λ h l hy=>by
         rw [List.all_eq_false] at h
         obtain ⟨j,hj,hne⟩:=h
         have hj' :j<(x::r).length:=by rw [cE,ae] at hj;exact hj
         rw [bJ,aA hj'] at hne
         exact hne (by have h1:=hy _ (iL hj');have h2:=hy x (.head _);simp only [Option.getD_some,beq_iff_eq];rw [h1,h2])
        have h1:lq f' c.1≠[]:=by rw [hl];exact λ h=>nomatch h
        refine ⟨λ hb=>gq (j:=0) (aY (.tail _ (.tail _ (.tail _ (.head _))))) hlz' rfl (tM (jc (.tail _ (.tail _ (.tail _ (.tail _ (.head _)))))) ⟨λ hx=>cT ?_,λ hx=>cF ?_⟩),λ hb=>cF ?_⟩
        ·have hx' :x∉f' :=by simpa using hx
         have hfz:(jZ f').length<=1000000:=by rw [ae];have:=J'.len;dsimp only at this;lia
         refine gq (j:=0) (aY (.tail _ (.tail _ (.tail _ (.head _))))) hlz' rfl (C6 (kvs:=jZ f') (.there (.there (.there (.there .here)))) hfz ?_)
         rw [oF,if_neg hx']
         exact ⟨(f' ++[x],true),J'.grow (hlm x (.head _)) hx',rfl,gR (.cons _ (.cons _ (.cons _ (.cons _ (.refl _)))))⟩
        ·have hx' :x∈f' :=by simpa using hx
         exact ⟨(f',g'),J'.same UB h1 (λ l h=>by rw [hl] at h;rw [<-h x (.head _)];exact hx'),rfl,gR (.cons _ (.cons _ (.cons _ (.cons _ (.refl _)))))⟩
        ·exact ⟨(f',g'),J'.same UB h1 (λ l h=>by rw [hl] at h;exact absurd h (hB2 hb l)),rfl,gR (.cons _ (.cons _ (.cons _ (.cons _ (.refl _)))))⟩
    ·rw [hrc] at J'
     exact ⟨p,J'.fin,rfl,cR⟩
   | false=>
    refine cF ?_
    have hfz:(jZ f).length<=1000000:=by rw [ae];have:=J.len;dsimp only at this;lia
    refine sK.lock A S _ H (jZ f) (λ o=>(H,.ro o (.dict (jZ f)))::E0) (λ i ys=>ys=((f.take i).filter λ l=>decide (-l∈f)).map vi) rfl rfl hfz (λ o=> .here) (λ o=> .here) rfl (λ o i ys u hu hys=>?_) λ ys hys D' =>?_
    ·rw [bC] at hu
     have hu:f[i]? =some u:=by rw [<-hu];exact congrArg (·[i]?) (m6 _).symm
     have htk:f.take (i+1)=f.take i++[u]:=by rw [ba,hu];rfl
     have e0:(0:Int)-u=-u:=xU u
     refine Db (λ U (T:St G.me A S U _)=>uN (T.at_ (.head _))) ⟨λ hb=>⟨cR,?_⟩,λ hb=>⟨cR,?_⟩⟩
     ·rw [e0] at hb
      rw [hys,htk,cN,aD,bG,if_pos hb];rfl
     ·rw [e0] at hb
      rw [hys,htk,cN,aD,bG,if_neg (by rw [hb];decide)];simp
    ·rw [ae,aX] at hys
     subst hys
     refine bk (bb _) λ D2=>lX rfl (aY (.tail _ (.head _))) (aY (.head _)) ?_
     rw [jf]
     have:f.any (λ l=>decide (-l∈f))=true:=by
      cases h:f.any (λ l=>decide (-l∈f)) with
      | true=>rfl
      | false=>
       refine (hU f J.sub ⟨λ c hc=>?_,λ c hc=>?_,λ l hl hn=>?_⟩).elim
       ·obtain ⟨e,he,rfl⟩:=aJ.mp hc
        exact (J.qt rfl e he).1
       ·obtain ⟨e,he,rfl⟩:=aJ.mp hc
        exact (J.qt rfl e he).2
       ·have:=pI.mp h l hl
        exact this (decide_eq_true hn)
     rw [this]
     exact ⟨_,gR (hsE.trans (.cons _ (.cons _ (.cons _ (.refl _))))),λ _=>q⟩
end
end
section
section
variable{G:Gx}{A A' :Ad}{S S' :SS}{E E' :List (Addr×aT)}{n:Nat}{z z' :Zs}{Q:VQ}{QS:SQ}{ts us:TL}{a w h D:Addr}{ls hs:List Int}{bs:List Bool}
noncomputable def ou(A:Ad)(S:SS)(k:Nat):List Value:=refsOf (λ i=>A (.logT i)) k
noncomputable def ul(A:Ad)(S:SS)(k:Nat):oh:=(cV k).map λ i=>(S.log.getD i [],A (.logT i))
theorem B0(A:Ad)(S:SS)(k:Nat):cq (ul A S k)=ou A S k:=by
 unfold cq ul ou refsOf
 rw [bC];rfl
theorem u1(h:k<=L):(ou A S L).take k=ou A S k:=by
 unfold ou refsOf
 rw [<-kA,List.take_range,dz h]
theorem EW(h:k<=S.log.length):(ul A S k).map (·.1)=S.log.take k:=by
 unfold ul
 rw [bC]
 refine Ea λ i=>?_
 rw [ay,bv]
 by_cases hi:i<k
 ·rw [gG hi,if_pos hi,aA (aq hi h)]
  show some (S.log.getD i [])=_
  rw [bJ,aA (aq hi h)];rfl
 ·rw [bt (by rw [pH];lia),if_neg hi];rfl
theorem jH:∀U,Zs.ok G (.s A S E) U->U.rd (A .log)=some (.list (ou A S S.log.length)):=ja .log rfl (by intro _ _ h;cases h)
theorem sY{c:List Int}(h:S.log[k]? =some c):Az G A S E (A (.logT k)) c:=ja (.logT k) (by show S.log[k]?.map _=_;rw [h];rfl) (by intro _ _ h;cases h)
theorem EV(h:k<=S.log.length):q9 G A S E (ul A S k):=λ e he=>by
 obtain ⟨i,hi,rfl⟩:=aJ.mp he
 have hi' :i<S.log.length:=aq (cE.mp hi) h
 refine sY ?_
 rw [bJ,aA hi'];rfl
theorem fY.len{N k:Nat}{c:List Int}{Cl lg:List (List Int)}(L:fY N Cl lg)(h:lg[k]? =some c):c.length<=2*N:=by
 obtain ⟨⟨h1,h2⟩,_⟩:=L k c h
 refine ac (sR (ls:=lits N) h1 λ x hx=>u0 (h2 x hx)) ?_
 have:=GV (many:=N) []
 unfold mu at this
 rwa [gH.mpr (λ x _=>by simp)] at this
theorem fY.cs{N k:Nat}{Cl:List (List Int)}(L:fY N Cl S.log)(hN:N<=1000)(hz:S.log.length<=90000)(h:k<=S.log.length):∀e∈ul A S k,e.1.length<=1000000/\∀l∈e.1,1<=l.natAbs/\l.natAbs<=N:=λ e he=>by
 obtain ⟨i,hi,rfl⟩:=aJ.mp he
 have hi' :i<S.log.length:=aq (cE.mp hi) h
 have hg:=aA hi'
 rw [show S.log.getD i []=S.log[i] by rw [bJ,hg];rfl]
 exact ⟨ac (L.len hg) (by lia),(L i _ hg).1.2⟩
theorem pB{cs:oh}{ca wa el:Addr}(hn:G.n=n+3)(hc:∀U,Zs.ok G (.s A S E) U->U.rd ca=some (.list (cq cs)))(hC:q9 G A S E cs)(hk:xI many cs)(hcz:cs.length<=10000)(hm:many<=100)(hlz:S.log.length<=90000)
  (hw:(wa,lT ts)∈E) (hT:qm ts E) (ht:∀e∈ts,e.1.length=many) (htz:ts.length<=1000000) (he:(el,.list (ou A S k0))∈E) (X6:k0<=S.log.length)
  (L:fY many (cs.map (·.1)) S.log) (Yr:∀e∈ts,∀c∈S.log,c.any (gz e.1)=true) (q:Q (.bool true) (.s A S E)):j4 G 259 [.ref G.me,.ref ca,.ref wa,.ref el] (.s A S E) Q:=by
 refine enter hn ["search","clauses","worlds","elder"] [.me,.v (.ref ca),.v (.ref wa),.v (.ref el)] rfl rfl rfl (λ vs h=>by refine vf (Im h) λ V V V V QI=>?_;subst QI;rfl) rfl ?_
 have hll:(ou A S S.log.length).length=S.log.length:=fV _ _
 have hle:(ou A S k0).length=k0:=fV _ _
 refine gp (aY he) hle (by lia) (tL (λ h=>(bw h).elim) jH (by lia) λ D=>?_)
 rw [iZ,u1 X6]
 refine C_ rfl (aY (.head _)) (aY (.tail _ he)) (λ x hx=>?_) (cF ?_)
 ·obtain ⟨i,_,e⟩:=aJ.mp hx
  exact ⟨_,e.symm⟩
 refine gp jH hll (by lia) (gp (aY (.tail _ he)) hle (by lia) (cD (λ hq=>cT ?_) λ hq=>cF ?_))
 ·refine Df (e:=λ _=>true) rfl jH (aY (.tail _ he)) (show (ou A S S.log.length).length=(ou A S k0).length by lia) (λ U k j x y hx hy=>?_) ?_
  ·obtain ⟨i,_,e1⟩:=aJ.mp (am hx)
   subst e1
   have hjl:j<S.log.length:=by have:=(ag.mp hx).1;lia
   have hjk:j<k0:=by have:=(ag.mp hy).1;lia
   rw [show (ou A S S.log.length)[j]? =_ from kI _ _ j hjl] at hx
   rw [show (ou A S k0)[j]? =_ from kI _ _ j hjk] at hy
   rw [<-aO hx,<-aO hy]
   exact pE.same _
  ·rw [show (cV (ou A S S.log.length).length).all (λ _=>true)=true by simp]
   exact ⟨_,wx,λ _=>q⟩
 ·have hM:∀i:Nat,S.log.length<=90000:=λ _=>hlz
  refine gp (aY (.tail _ he)) hle (by lia) ?_
  refine gp jH hll (by lia) ?_
  refine n8 (a:=(k0:Int)) (b:=(S.log.length:Int)) ⟨by lia,by lia⟩ ⟨by lia,by lia⟩ λ R=>?_
  refine (?_:DO _ _ _ _ _ _ _ (.s A S ((R,.rng k0 ((S.log.length:Int)-k0).toNat)::(D,.list (ou A S k0))::E)))
  refine .mk R (.rng k0 ((S.log.length:Int)-k0).toNat) (fi k0 ((S.log.length:Int)-k0).toNat) Unit (λ _=>[("search",.me),("clauses",.v (.ref ca)),("worlds",.v (.ref wa)),("elder",.v (.ref el))]) (λ _=> .s A S ((R,.rng k0 ((S.log.length:Int)-k0).toNat)::(D,.list (ou A S k0))::E)) (λ _ _=>True) () rfl rfl trivial rfl cR (λ i p U _ k=>eA (.head _) k) (λ i p v hv _ _=>?_) λ p _ _=>?_
  ·obtain ⟨hi,RP⟩:=iC hv
   obtain ⟨k,Vp⟩:∃k:Nat,(k0:Int)+(i:Int)=(k:Int):=⟨k0+i,by lia⟩
   rw [Vp] at RP
   subst RP
   have hkL:k<S.log.length:=by lia
   have hg:=aA hkL
   obtain ⟨c,hc0⟩:∃c,S.log[k]=c:=⟨_,rfl⟩
   rw [hc0] at hg
   have hcl:=L.len hg
   have hcr:=(L k c hg).1.2
   generalize hE1:(R,aT.rng k0 ((S.log.length:Int)-k0).toNat)::(D,aT.list (ou A S k0))::E=E1
   have hs1:E.Sublist E1:=hE1▸(bM _ _).trans (bM _ _)
   have hrc:(cq cs).length=cs.length:=ae ..
   have hlk:(ou A S k).length=k:=fV _ _
   have hgl:(ou A S S.log.length)[k]? =some (.ref (A (.logT k))):=kI _ _ k hkL
   refine (?_:Os _ (A .log) none (some (k:Int)) none (.s A S E1) _)
   refine tL (λ h=>(bw h).elim) jH (by lia) λ D1=>?_
   rw [iZ,u1 (aP hkL)]
   refine xz (λ U k=>hc U (gR (hs1.trans (bM _ _)) U k)) (aY (.head _)) (by lia) λ D2=>?_
   rw [<-B0,show cq cs++cq (ul A S k)=cq (cs++ul A S k) from aD.symm]
   refine (?_:AA _ (.ref (A .log)) (vn k) (.s A S ((D2,.list (cq (cs++ul A S k)))::(D1,.list (cq (ul A S k)))::E1)) _)
   have hs2:E.Sublist ((D2,aT.list (cq (cs++ul A S k)))::(D1,.list (cq (ul A S k)))::E1):=(hs1.cons _).cons _
   generalize hE2:(D2,aT.list (cq (cs++ul A S k)))::(D1,aT.list (cq (ul A S k)))::E1=E2 at hs2
   have hD2:(D2,aT.list (cq (cs++ul A S k)))∈E2:=hE2▸ .head _
   refine gq jH (by lia) hgl ?_
   refine .mk (A (.logT k)) (.tup (c.map vi)) (c.map vi) Unit (λ _=> .s A S E2) (λ j ys _=>ys=((c.take j).map λ l=>0-l).map vi) () rfl rfl (by rw [ae];lia) rfl cR (λ j ys _ U _ k=> .inr (sY hg U k)) (λ j ys _ v hv hys _=>?_) λ ys _ hys _ D3=>?_
   ·obtain ⟨l,hl,rfl⟩:=eE hv
    refine ⟨(),?_,cR⟩
    rw [hys,ba,hl,aD,aD];rfl
   ·rw [ae,aX] at hys
    subst hys
    have hcs:xI many (cs++ul A S k):=⟨by rw [av,show (ul A S k).length=k by unfold ul;simp];lia,λ e he=>(aw.mp he).elim (hk.r e) (L.cs (by lia) hlz (aP hkL) e)⟩
    refine Af (hs:=c.map λ l=>0-l) rfl (aY (.tail _ hD2)) (λ e he=>(aw.mp he).elim (hC.sub (hs2.cons _) e) (EV (aP hkL) e)) hcs (by lia) (aY (.head _)) (by rw [ae];lia) (λ f hf T=>?_) ?_
    ·rw [aD,EW (aP hkL)] at T
     exact L.clash hg (λ x hx=>by have:=hf (0-x) (aJ.mpr ⟨x,hx,rfl⟩);rwa [xU] at this) T
    ·refine cF ?_
     have hs3:E.Sublist ((D3,aT.list ((c.map λ l=>0-l).map vi))::E2):=hs2.cons _
     refine (?_:sK _ _ _ _ _ _ _ _ _ (.s A S ((D3,aT.list ((c.map λ l=>0-l).map vi))::E2)))
     refine .mk wa (lT ts) (gL ts) Unit (λ _=> .s A S ((D3,aT.list ((c.map λ l=>0-l).map vi))::E2)) (λ j ys _=>ys=[]) () rfl rfl (by rw [show (gL ts).length=ts.length from ae ..];exact htz) rfl cR (λ j ys _ U _ k=>eA (hs3.subset hw) k) (λ j ys _ v hv hys _=>?_) λ ys _ hys _ D4=>?_
     ·obtain ⟨e,he,rfl⟩:=oJ hv
      have Tx:=am he
      have UR:=ht e Tx
      refine gq jH (by lia) hgl ?_
      refine yM rfl (hs3.subset (hT e Tx)) (sY hg) (by rw [UR];exact hcr) (by rw [UR];lia) (by lia) ?_
      rw [Yr e Tx c (am hg)]
      exact cF ⟨(),hys,cR⟩
     ·subst hys
      refine bk (bb _) λ D5=>lX rfl (aY (.tail _ (.head _))) (aY (.head _)) (cF ⟨(),trivial,rfl,?_⟩)
      refine gR ?_
      rw [<-hE2]
      exact .cons _ (.cons _ (.cons _ (.cons _ (.cons _ (.refl _)))))
  ·exact ⟨_,zj,λ _=>q⟩
end
end
section
section
variable{G:Gx}{A A' :Ad}{S S' :SS}{E E' :List (Addr×aT)}{n:Nat}{z z' :Zs}{Q:VQ}{QS:SQ}{ts us:TL}{a w h D l:Addr}{ls hs:List Int}{bs:List Bool}
noncomputable def AS(cs:oh):List (Addr×aT):=cs.map λ e=>(e.2,aT.tup (e.1.map vi))
theorem rZ{j:Nat}{x:Addr}{xs:List Int}{ao:aT}{p1 p2:Pos}{ct:Nat}{sc:Scope}{m:dZ}(hi:eK ao=some (xs.map vi))(hz:xs.length<=1000000)(see:∀U,Zs.ok G (.s A S E) U->U.sees x ao)
  (q:∀(cs:oh) D,cs.map (·.1)=xs.map (λ l=>[l])->Q (.ref D) (.s A S ((D,.list (cq cs))::(AS cs.reverse++E)))):sK (Wk (j+5)) G (.Tuple [.Name "late" p1] ct p2) "late" [] sc m Q (.ref x) (.s A S E):=by
 refine .mk x ao (xs.map vi) oh (λ cs=> .s A S (AS cs++E)) (λ i ys cs=>cs.reverse.map (·.1)=(xs.take i).map (λ l=>[l])/\ys=cq cs.reverse) [] rfl hi (by rw [ae];exact hz) ⟨rfl,rfl⟩ cR (λ i ys p U _ k=>see U (gR (cy _ _) U k)) (λ i ys p v hv J _=>?_) λ ys p J _ D=>?_
 ·obtain ⟨l,hl,rfl⟩:=eE hv
  refine ⟨aH rfl,λ D=>⟨([l],D)::p,⟨?_,?_⟩,cR⟩⟩
  ·rw [gb,aD,J.1,ba,hl,aD];rfl
  ·rw [gb,J.2];unfold cq;rw [aD];rfl
 ·rw [ae,aX] at J
  have:=q p.reverse D J.1
  rw [List.reverse_reverse] at this
  rw [J.2]
  exact this
theorem uS{cs:oh}{xs:List Int}(h:cs.map (·.1)=xs.map (λ l=>[l]))(b:List Bool):pL cs b=xs.all (gz b):=by
 unfold pL
 rw [show (cs.all λ e=>e.1.any (gz b))=(cs.map (·.1)).all λ c=>c.any (gz b) from by rw [JY];rfl,h,JY]
 congr 1
 funext l
 simp
theorem yi{cs:oh}(h:∀p∈AS cs.reverse,p∈E):q9 G A S E cs:=λ e he=>gg (h _ (aJ.mpr ⟨e,gw.mpr he,rfl⟩))
theorem yj{cs:oh}{xs:List Int}(h:cs.map (·.1)=xs.map (λ l=>[l]))(hz:xs.length<=1000)(hr:∀l∈xs,1<=l.natAbs/\l.natAbs<=many):xI many cs:=by
 refine ⟨?_,λ e he=>?_⟩
 ·have:=congrArg fh h
  rw [ae,ae] at this
  lia
 ·have:e.1∈xs.map (λ l=>[l]):=h▸bf he
  obtain ⟨l,hl,e1⟩:=aJ.mp this
  rw [<-e1]
  exact ⟨by simp,λ x hx=>by rw [al.mp hx];exact hr l hl⟩
theorem LX(hn:G.n=n+1)(hl:(l,lT ts)∈E)(hT:qm ts E)(q:Q (.bool (decide (ch∈ts.map (·.1)))) (.s A S ((D,tB ch)::E))):lj G (a_ .In) (.ref D) (.ref l) (.s A S ((D,tB ch)::E)) Q:=
 ⟨λ F m U (T:St G.me A S U ((D,tB ch)::E))=>by
  have H:HS (some (G.me,A,S)) U ((D,tB ch)::E):=T
  exact ah hn (CN H (.tail _ hl) (hT.mono λ V h=> .tail _ h) (.head _) (λ t ht=>H.ne (hT t ht)) (iY T q))⟩
theorem Ak{xs:List Int}{x:Int}(hn:G.n=n+1)(h:∀U,z.ok G U->U.rd a=some (.list (xs.map vi)))(q:Q (.bool (!decide (x∈xs))) z):lj G (a_ .NotIn) (vi x) (.ref a) z Q:=
 ⟨λ F m U k=>ah hn (qI (e:=λ v=>match v with | .int y _=>y==x | _=>false) (h U k) (λ y hy=>by
  obtain ⟨u,_,rfl⟩:=aJ.mp hy
  exact pE.ints u x) ⟨z,k,by
   have:((xs.map vi).any λ v=>match v with | .int y _=>y==x | _=>false)=decide (x∈xs):=by
    rw [lE]
    rw [Bool.eq_iff_iff,dj,decide_eq_true_eq]
    exact ⟨λ⟨u,hu,e⟩=>cG (show (u==x)=true from e)▸hu,λ hx=>⟨x,hx,show (x==x)=true by simp⟩⟩
   rw [this];exact q⟩)⟩
noncomputable def GW(S:SS)(many:Nat):List Bool:=(cV many).map λ i=>AT S (i+1)
theorem qL{wa aa:Addr}{as:List Int}{b:Bool}(hn:G.n=n+4)(hm:many<=100)(hw:(wa,lT ts)∈E)(hT:qm ts E)(ht:∀e∈ts,e.1.length=many)(htz:ts.length<=1000000)
  (ha:(aa,.list (as.map vi))∈E) (haz:as.length<=1000) (har:∀l∈as,1<=l.natAbs/\l.natAbs<=many)
  (hb:b=!(ts.filter λ e=>as.all (gz e.1)).isEmpty) (hb1:b=true->GW S many∈(ts.filter λ e=>as.all (gz e.1)).map (·.1))
  (hb2:b=false->(∀x∈S.blamed,x∈as)/\S.blamed.length<=1000/\(ts.filter λ e=>S.blamed.all (gz e.1))=[])
  (q:Q (.bool true) (.s A S E)):j4 G 271 [.ref G.me,vn many,.ref wa,.ref aa,.bool b] (.s A S E) Q:=by
 refine enter hn ["search","many","worlds","assumed","told"] [.me,.v (vn many),.v (.ref wa),.v (.ref aa),.v (.bool b)] rfl rfl rfl (λ vs h=>by obtain ⟨a,b,c,d,e,QI⟩:=No h;subst QI;rfl) rfl ?_
 refine rZ (ao:=.list (as.map vi)) rfl (by lia) (λ U k=>eA ha k) λ cs D hcs=>?_
 have hs1:E.Sublist ((D,aT.list (cq cs))::(AS cs.reverse++E)):=(cy _ _).cons _
 have hsee:q9 G A S ((D,aT.list (cq cs))::(AS cs.reverse++E)) cs:=yi λ p hp=> .tail _ (ak _ hp)
 have hD:(D,aT.list (cq cs))∈(D,aT.list (cq cs))::(AS cs.reverse++E):=.head _
 generalize (D,aT.list (cq cs))::(AS cs.reverse++E)=E1 at hs1 hsee hD
 refine (?_:j4 _ 249 [.ref wa,.ref D] (.s A S E1) _)
 refine tG rfl (by lia) (hs1.subset hw) (hT.mono λ p hp=>hs1.subset hp) ht htz (aY hD) hsee (yj hcs haz har) λ D' N UF _=>?_
 have hfe:(ts.filter λ e=>pL cs e.1)=ts.filter λ e=>as.all (gz e.1):=kq λ e _=>uS hcs e.1
 rw [hfe] at UF
 have hs2:E.Sublist (N++E1):=hs1.trans (cy _ _)
 generalize N++E1=E2 at UF hs2
 refine bk (bb _) λ D2=>lX rfl (aY (.tail _ UF)) (aY (.head _)) ?_
 have hre:∀us:TL,(gL us).isEmpty=us.isEmpty:=λ us=>by cases us<;>rfl
 rw [hre]
 refine BV (o:=some b) ?_
 rw [<-hb,show (!(some b==some b))=false by simp]
 refine cF ?_
 have hTf:qm (ts.filter λ e=>as.all (gz e.1)) ((D2,aT.list [])::E2):=λ e he=> .tail _ (hs2.subset (hT e (bE.mp he).1))
 have hs3:E.Sublist ((D2,aT.list [])::E2):=hs2.cons _
 have hD3:(D',lT (ts.filter λ e=>as.all (gz e.1)))∈(D2,aT.list [])::E2:=.tail _ UF
 refine (?_:Wf.s _ _ _ (.s A S ((D2,.list [])::E2)) _)
 generalize (D2,aT.list [])::E2=E3 at hs3 hD3 hTf
 cases b with
 | true=>
  refine cT ?_
  refine n8 (a:=(1:Int)) (b:=(many:Int)+1) ⟨by lia,by lia⟩ ⟨by lia,by lia⟩ λ R=>?_
  have hml:(GW S many).length=many:=by unfold GW;simp
  have hre:(((many:Int)+1)-1).toNat=many:=by lia
  rw [hre]
  refine .mk R (.rng 1 many) (fi 1 many) Unit (λ _=> .s A S ((R,.rng 1 many)::E3)) (λ i ys _=>ys=((GW S many).take i).map .bool) () rfl rfl (by rw [dt];lia) rfl cR (λ i p _ U _ k=>eA (.head _) k) (λ i ys _ v hv hys _=>?_) λ ys _ hys _ L=>?_
  ·obtain ⟨hi,rfl⟩:=iC hv
   refine FJ rfl ⟨(),?_,cR⟩
   have hg:(GW S many)[i]? =some (AT S (i+1)):=by unfold GW;rw [ay,gG hi];rfl
   rw [hys,ba,hg,aD]
   have e1:(1:Int)+(i:Int)=((i+1:Nat):Int):=by lia
   rw [e1];rfl
  ·rw [dt,fK (aC hml)] at hys
   subst hys
   refine n7 (aY (.head _)) (by rw [ae,hml];lia) λ T=>?_
   refine LX (l:=D') (ts:=ts.filter λ e=>as.all (gz e.1)) rfl (.tail _ (.tail _ hD3)) (hTf.mono λ p hp=> .tail _ (.tail _ hp)) ?_
   rw [decide_eq_true (hb1 rfl)]
   exact ⟨_,gR ((hs3.cons _).cons _ |>.cons _),λ _=>q⟩
 | false=>
  obtain ⟨g1,g2,g3⟩:=hb2 rfl
  refine cF (CU rfl ?_)
  have hbl:(A .blamed,aT.tup (S.blamed.map vi))=(A .blamed,aT.tup (S.blamed.map vi)):=rfl
  refine .mk (A .blamed) (.tup (S.blamed.map vi)) (S.blamed.map vi) Unit (λ _=> .s A S E3) (λ i ys _=>ys=[]) () rfl rfl (by rw [ae];lia) rfl cR (λ i p _ U _ k=>sV .blamed rfl k) (λ i ys _ v hv hys _=>?_) λ ys _ hys _ L=>?_
  ·obtain ⟨x,hx,rfl⟩:=eE hv
   refine Ak rfl (aY (hs3.subset ha)) ?_
   rw [decide_eq_true (g1 x (am hx))]
   exact cF ⟨(),hys,cR⟩
  ·subst hys
   refine bk (bb _) λ D5=>lX rfl (aY (.tail _ (.head _))) (aY (.head _)) (cF ?_)
   have hs4:E.Sublist ((D5,aT.list [])::(L,aT.list [])::E3):=(hs3.cons _).cons _
   refine (?_:Wf.s _ _ _ (.s A S ((D5,.list [])::(L,.list [])::E3)) _)
   generalize (D5,aT.list [])::(L,aT.list [])::E3=E4 at hs4
   refine rZ (ao:=.tup (S.blamed.map vi)) rfl (by lia) (λ U k=>sV .blamed rfl k) λ SK D6 U7=>?_
   have hs5:E.Sublist ((D6,aT.list (cq SK))::(AS SK.reverse++E4)):=(hs4.trans (cy _ _)).cons _
   have hsee2:q9 G A S ((D6,aT.list (cq SK))::(AS SK.reverse++E4)) SK:=yi λ p hp=> .tail _ (ak _ hp)
   have hD6:(D6,aT.list (cq SK))∈(D6,aT.list (cq SK))::(AS SK.reverse++E4):=.head _
   refine (?_:j4 _ 249 [.ref wa,.ref D6] (.s A S ((D6,.list (cq SK))::(AS SK.reverse++E4))) _)
   generalize (D6,aT.list (cq SK))::(AS SK.reverse++E4)=E5 at hs5 hsee2 hD6
   refine tG rfl (by lia) (hs5.subset hw) (hT.mono λ p hp=>hs5.subset hp) ht htz (aY hD6) hsee2 (yj U7 g2 (λ l hl=>har l (g1 l hl))) λ D7 N2 Xh _=>?_
   have hfe2:(ts.filter λ e=>pL SK e.1)=ts.filter λ e=>S.blamed.all (gz e.1):=kq λ e _=>uS U7 e.1
   rw [hfe2,g3] at Xh
   refine bk (bb _) λ D8=>yS rfl (aY (.tail _ Xh)) (aY (.head _)) ?_
   exact ⟨_,gR ((hs5.trans (cy _ _)).cons _),λ _=>q⟩
end
end
section
section
variable{C:Cx}{F:c_}{n:Nat}{m:Str->Option Value}{U U' :AH}
theorem Gr{Q:fH->(Str->Option Value)->AH->Prop}(hs:l7 [.Tuple QV k tp] e pos.line F.env=dG false)(hw:ef [.Tuple QV k tp] e F.env=dG (some [x,y,w]))
  (Sx:Stores F x) (Sy:Stores F y) (Sw:Stores F w)
  (h:WE C F n e m U λ v U1=>∃a vx vy vw,v=.ref a/\U1.rd a=some (.tup [vx,vy,vw])/\Q .next (fe (fe (fe m w vw) y vy) x vx) U1):W1 C F n (.Assign [.Tuple QV k tp] e pos) m U Q:=λ O Z s W R K=>by
 refine sN (GM (h O Z s _ R λ v s₁ U1 R₁ Q4=>?_) hs hw)
 obtain ⟨a,vx,vy,vw,e1,ha,QC⟩:=Q4
 refine jz e1 (ck (R₁.at ha) λ vs c hv hx=>?_)
 obtain ⟨a',b',c',rfl,rfl,rfl,rfl⟩:=Hh hx
 refine AU (items:=#[a',b',c']) O.handled ⟨_,hv,rfl,_,rfl⟩ λ h' hk=>?_
 have R₂:cj C F Z {s₁ with heap:=h' } m U1:=R₁.grow O ⟨R₁.core.gens,R₁.core.os,R₁.core.dr⟩ λ b o e=>hk b o (bu (bz e)) e
 refine ((ed (kT (ge O R₂ Sw λ s₃ R₃=>?_))):br _ _ (qq [xQ F.env w,xQ F.env y,xQ F.env x] [c',b',a']) _ _ _)
 exact ed (kT (ge O R₃ Sy λ s₄ R4=>ed (kT (ge O R4 Sx λ S_ R5=>l6 (K _ _ _ _ R5 QC)))))
end
section
variable{G:Gx}{F:c_}{A A' :Ad}{S S' :SS}{E E' :List (Addr×aT)}{n:Nat}{z z' :Zs}{Q:VQ}{QS:SQ}
theorem Pt(g:GF G F)(k1:G.nm.lookup (aF "assumed")=some .local)(k2:G.nm.lookup (aF "most")=some .local)(k3:G.nm.lookup (aF "told")=some .local)(h2:p2.line=p1.line)(h3:p3.line=p1.line):
  ef [.Tuple [.Name (aF "assumed") p1,.Name (aF "most") p2,.Name (aF "told") p3] k tp] (.Tuple [.ListComp QO gens sc y2,.Constant c1 j1 q1,.Constant c2 j2 q2] k' q) F.env=dG (some [aF "assumed",aF "most",aF "told"]):=by
 have e1:=g.kind _ _ k1 (by decide)
 have e2:=g.kind _ _ k2 (by decide)
 have e3:=g.kind _ _ k3 (by decide)
 unfold ef
 dsimp only [bF,fR]
 refine (if_neg ?_).trans ((if_neg ?_).trans ((if_neg ?_).trans ((if_neg ?_).trans ((if_neg ?_).trans ?_))))
 ·refine ah g.blk ?_;decide
 ·exact λ h=>nomatch h
 ·refine ah (O9 (if_pos (Eh e1 rfl)) (if_pos (Eh e2 h2)) (if_pos (Eh e3 h3))) ?_
  exact λ h=>nomatch h
 ·exact λ h=>nomatch h
 ·exact λ h=>nomatch h
 ·exact congrArg (λ l=>(dG (some l):Sem (Option (List Str)))) (O9 (if_pos (Eh e1 rfl)) (if_pos (Eh e2 h2)) (if_pos (Eh e3 h3)))
noncomputable abbrev Sg:=List ((Int×Int)×Addr)
noncomputable def P0(ps:Sg)(E:List (Addr×aT)):Prop:=∀e∈ps,(e.2,aT.tup [vi e.1.1,vi e.1.2])∈E
theorem Kg{ps:Sg}{f:Int->Int->Int}(k1:G.nm.lookup (aF "assumed")=some .local)(k2:G.nm.lookup (aF "most")=some .local)(k3:G.nm.lookup (aF "told")=some .local)(h2:p2.line=p1.line)(h3:p3.line=p1.line)
  (hm:m.lookup (aF "signed")=some (.v (.ref D))) (hD:(D,.list (ps.map λ e=>bA e.2))∈E) (hI:P0 ps E) (hz:ps.length<=1000)
  (hsc:sc.names=[(dH ".0",.local),(dH "v",.local),(dH "sign",.local)]) (hs1:pe G sc "v"=true) (hs2:pe G sc "sign"=true)
  (Wv:∀(v s:Int) z,(Wk 9 (G.sub G.n sc.names)).e QO (put (put (n4 sc m) "v" (vi v)) "sign" (vi s)) z λ r z' =>r=vi (f v s)/\z' =z)
  (q:∀B,QS .next (put (put (put m (aF "told") .none) (aF "most") (vi 1)) (aF "assumed") (.ref B)) (.s A S ((B,.list ((ps.map λ e=>f e.1.1 e.1.2).map vi))::E))):
  jL G (.Assign [.Tuple [.Name (aF "assumed") p1,.Name (aF "most") p2,.Name (aF "told") p3] k tp] (.Tuple [.ListComp QO [⟨.Tuple [.Name "v" x6,.Name "sign" x7] ctx x8,.Name "signed" x9,[],0⟩] sc y2,.Constant (.int 1) j1 q1,.Constant .none j2 q2] k' q') pos) m (.s A S E) QS:=
 ⟨λ F U g (T:St G.me A S U E)=>λ O=>by
  have ho:∀x,G.nm.lookup x=some .local->(x !=("__debug__":Str)&&x !=("__classdict__":Str))=true->eZ G x=true:=λ x h h' =>by unfold eZ;rw [h,h'];rfl
  have c1:=pb g O hs1
  have c2:=pb g O hs2
  have H:HS (some (G.me,A,S)) U E:=T
  refine Gr rfl (Pt g k1 k2 k3 h2 h3) (dS g O (ho _ k1 (by decide))) (dS g O (ho _ k2 (by decide))) (dS g O (ho _ k3 (by decide))) (oa (e_ (λ _=>rfl) ?_)) O
  refine vK c1.ok (λ x=>rfl) (d6 (mq hm) (.inl ⟨D,_,_,rfl,rfl,.inl (H.at_ hD),λ L2 mL=>⟨λ i ys U=>ys=((ps.take i).map λ e=>f e.1.1 e.1.2).map vi/\St G.me A S U E,⟨rfl,T⟩,λ i ys U p=> .inl (p.2.at_ hD),λ i v ys U1 hv p=>?_,λ ys U1 p B hB=>?_⟩⟩))
  ·obtain ⟨hys,T1⟩:=p
   rw [ay] at hv
   obtain ⟨e,he,rfl⟩:=aQ.mp hv
   have hil:i<ps.length:=(ag.mp he).1
   have H1:HS (some (G.me,A,S)) U1 E:=T1
   refine Go rfl (H1.tup (hI e (am he))) rfl (fE (c1.st _ _) (fE (c2.st _ _) ⟨λ q w hq=>?_,?_⟩))
   ·unfold iJ at hq
    split at hq
    ·rename_i VK
     replace VK:=hsc▸VK
     have:=mem_of_lookup VK
     simp at this
    ·exact (bw hq).elim
   refine ol (G3 rfl (?_:EL _ _ _ _ _ _ _ _))
   refine ⟨by rw [hys,ae,ae,ce];lia,?_⟩
   refine dI (lU ..) (ah (dA ..) (ah (dA ..) (WE.bd (G:=G.sub G.n sc.names) (α:=λ Uu=>True) ((iQ 9).e (G:=G.sub G.n sc.names) (Wv e.1.1 e.1.2 (.s A S E)) (c1.gf L2 mL) T1) λ r z' U5 T5 hr=>?_)))
   obtain ⟨rfl,rfl⟩:=hr
   refine ⟨?_,T5⟩
   rw [hys,ba,he,aD,aD];rfl
  ·obtain ⟨hys,T1⟩:=p
   rw [ae,aX] at hys
   subst hys
   generalize ((ps.map λ e=>f e.1.1 e.1.2).map vi)=L at q⊢
   have T2:St G.me A S (U1.put B (.list L)) ((B,.list L)::E):=T1.fresh hB
   refine e_ (λ _=>rfl) (tV (e_ (λ _=>rfl) (yU (jW ⟨aH rfl,λ a ha=>⟨a,_,_,_,rfl,d0 (AH.get_put_self _ _ _) (by intro _ _ h;cases h),ah (dA ..) (ah (dA ..) (ah (dA ..) ⟨_,.s A S ((B,.list L)::E),rfl,s8 (z:=.s A S ((B,.list L)::E)) T2 ha,q B⟩))⟩⟩))))⟩
end
end
section
theorem Dk{bs:List Bool}{c:List Int}(h0:∀x∈c,x≠0):c.any (gz bs)=true↔∃x∈c,Lw (O0 bs) x:=by
 rw [dj]
 exact ⟨λ⟨x,hx,h⟩=>⟨x,hx,h0 x hx,h⟩,λ⟨x,hx,h⟩=>⟨x,hx,h.2⟩⟩
theorem yL{w:Nat->Bool}{c:List Int}(h0:∀x∈c,x≠0)(h:clo (Lw w) c):∃x∈c,Lw w x:=
 dP λ hn=>n0 (yG w) h λ x hx=>DM (h0 x hx) λ q=>hn ⟨x,hx,q⟩
noncomputable def Mj(N:Nat)(cs:oh):Prop:=∀e∈cs,e.1.length<=3/\∀l∈e.1,1<=l.natAbs/\l.natAbs<=N
theorem yk{cs:oh}(hr:Mj N cs)(h:pL cs bs=true):∀c∈cs.map (·.1),clo (Lw (O0 bs)) c:=λ c hc=>by
 obtain ⟨e,he,rfl⟩:=aJ.mp hc
 exact sB ((Dk λ x hx=>nz ((hr e he).2 x hx)).mp (bV.mp h e he))
theorem yr{cs:oh}{lg:List (List Int)}(hr:Mj N cs)(L:fY N (cs.map (·.1)) lg)(h:pL cs bs=true):∀c∈lg,c.any (gz bs)=true:=λ c hc=>by
 have W:=L.world (yk hr h)
 obtain ⟨k,hk⟩:=aK.mp hc
 have h0:∀x∈c,x≠0:=λ x hx=>nz ((L k c hk).1.2 x hx)
 exact (Dk h0).mpr (yL h0 (W.2.2 c hc))
theorem Aq{cs:oh}{ts:TL}{as:List Int}(hr:Mj many cs)(hts:ts.map (·.1)=(mT many).filter (pL cs))(har:∀l∈as,1<=l.natAbs/\l.natAbs<=many)(Fn:M3 many (cs.map (·.1)) lg0 as bud S b):
  b=(!(ts.filter λ e=>as.all (gz e.1)).isEmpty)/\(b=true->GW S many∈(ts.filter λ e=>as.all (gz e.1)).map (·.1))/\
   (b=false->(∀x∈S.blamed,x∈as)/\S.blamed.length<=1000/\(ts.filter λ e=>S.blamed.all (gz e.1))=[]):=by
 have hte:∀e∈ts,e.1∈mT many/\pL cs e.1=true:=λ e he=>by
  have:=bf (f:=(·.1)) he
  rw [hts] at this
  exact bE.mp this
 have h1:b=true->GW S many∈(ts.filter λ e=>as.all (gz e.1)).map (·.1):=λ hb=>by
  obtain ⟨W,ha⟩:=Fn.tru hb
  have hin:Eg many (AT S)∈ts.map (·.1):=by
   rw [hts]
   refine bE.mpr ⟨Bj many (AT S),bV.mpr λ e he=>?_⟩
   obtain ⟨x,hx,hl⟩:=yL (λ x hx=>nz ((hr e he).2 x hx)) (W.2.1 e.1 (bf he))
   refine dj.mpr ⟨x,hx,?_⟩
   have:=(hr e he).2 x hx
   rw [uM _ this.1 this.2];exact hl.2
  obtain ⟨e,he,e1⟩:=aJ.mp hin
  refine aJ.mpr ⟨e,bE.mpr ⟨he,bV.mpr λ a hx=>?_⟩,e1⟩
  have:=har a hx
  rw [show e.1=Eg many (AT S) from e1,uM _ this.1 this.2]
  exact (ha a hx).2
 have h2:b=false->(∀x∈S.blamed,x∈as)/\S.blamed.length<=1000/\(ts.filter λ e=>S.blamed.all (gz e.1))=[]:=λ hb=>by
  obtain ⟨⟨f1,f2⟩,f3⟩:=Fn.fls hb
  refine ⟨f1,f2,fL.mpr λ e he hall=>?_⟩
  have W:=Fn.rs.lg.world (yk hr (hte e he).2)
  exact f3 _ W λ x hx=>⟨nz (har x (f1 x hx)),bV.mp hall x hx⟩
 refine ⟨?_,h1,h2⟩
 cases b with
 | true=>
  have:=h1 rfl
  cases e:(ts.filter λ e=>as.all (gz e.1)) with
  | nil=>rw [e] at this;cases this
  | cons x r=>rfl
 | false=>
  obtain ⟨f1,_,f3⟩:=h2 rfl
  have:(ts.filter λ e=>as.all (gz e.1))=[]:=fL.mpr λ e he hall=>by
   refine fL.mp f3 e he (bV.mpr λ x hx=>bV.mp hall x (f1 x hx))
  rw [this];rfl
theorem q_.lim{Cl lg0:List (List Int)}(R:q_ N Cl lg0 bud S)(QH:Int):q_ N Cl lg0 bud (S.sLimit QH):=
 ⟨R.hk,R.lock,R.b1,R.b2,R.trl.turn rfl rfl rfl rfl rfl λ c r h=>⟨r,h,λ V=>kE⟩,R.wt.same rfl rfl,R.lg,R.pre,R.dead,λ h=>by
  obtain ⟨as,L⟩:=R.live h
  exact ⟨as,L.gain rfl rfl rfl rfl rfl rfl rfl rfl⟩⟩
theorem zv(xs:List Value)(v:Value):jS (xs++[v]) (some (-1)) none none=[v]:=by
 unfold jS
 rw [slicePick_plain]
 have:=clipAt_neg (xs++[v]).toArray.size 1 (az _)
 rw [show (some (-1:Int)).elim 0 (clipAt (xs++[v]).toArray.size)=(xs++[v]).toArray.size-1 from this]
 simp
section
variable{C:Cx}{F:c_}{n:Nat}{m:Str->Option Value}{U U' :AH}
theorem Cp{Q:Value->AH->Prop}(ha:U.rd a=some (.list (xs++[v])))(hz:xs.length<=1000000)(h:Q v U):WG C F n (.ref a) (vi (-1)) m U Q:=λ o' i' e1 e2 O Z s W R K=>by
 refine jz e1 (iU e2 λ t=>(ck (R.at ha) λ vs c hv hx=>?_))
 have hl:s.heap.IsList a vs.toArray:=⟨_,hv,rfl,_,rfl⟩
 have hlen:=dw hx
 rw [av,aG] at hlen
 obtain ⟨v',hg⟩:∃v',vs[vs.length-1]? =some v' :=⟨_,aA (by lia)⟩
 have ev:er v' =v:=by
  have h1:(vs.map er)[vs.length-1]? =some (er v'):=by rw [ay,hg];rfl
  have h2:vs.length-1=xs.length:=by lia
  rw [hx,h2,bI (az _),gC] at h1
  exact (aO h1).symm
 exact ⟨"list",_,hl.typeIs,lB.lookup,wpAny_getItem_list_neg (x:=v') hl (by lia) (by simp;lia) (by lia) (by
  rw [show ((-1:Int)+(vs.toArray.size:Int)).toNat=vs.length-1 by simp;lia]
  simpa using hg) (K _ _ _ R (ev.symm▸h))⟩
end
section
variable{G:Gx}{A A' :Ad}{S S' :SS}{E E' :List (Addr×aT)}{n:Nat}{z z' :Zs}{Q:VQ}{QS:SQ}{a:Addr}
theorem Am{xs:List Value}{v:Value}(h:∀U,z.ok G U->U.rd a=some (.list (xs++[v])))(hz:xs.length<=1000000)(q:Q v z):AA G (.ref a) (vi (-1)) z Q:=⟨λ F m U k=>Cp (h U k) hz ⟨z,k,q⟩⟩
theorem IZ{Cl lg0:List (List Int)}{ls:List Int}{o:aT}(hn:G.n=n+2)(ha:(a,o)∈E)(hi:eK o=some (ls.map vi))(R:q_ N Cl lg0 bud S)(hN:N<=60)(hb:bud<=40000)(hz:ls.length<60)(har:∀l∈ls,1<=l.natAbs/\l.natAbs<=N)
  (q:∀A' S' b,q_ N (Cl++[ls]) lg0 (bud+1) S' ->Q (.bool b) (.s A' S' E)):j4 G 123 [.ref G.me,.ref a] (.s A S E) Q:=by
 have K:=R.add hN hb hz har
 exact n5 hn ha hi K.tr K.lock K.len K.rng K.b1 K.b2 K.b3 K.b4 (λ hp A' =>q A' _ _ (K.no hp).1) λ hp c A' hc=>q A' _ _ (K.yes hp c hc).1
theorem CW{Cl lg0:List (List Int)}{m:dZ}{as:List Int}{QH:Int}{p0 p1 p2 p3 pos:Pos}(hX:Dr G.X)(hn:G.n=n+5)(SA:G.top)(Uc:G.nm.lookup ("_law_asked":Str)=some .globalImplicit)
  (m1:m.lookup ("search":Str)=some .me) (m2:m.lookup ("assumed":Str)=some (.v (.ref a))) (m3:m.lookup ("most":Str)=some (.v (vi QH)))
  (R:q_ N Cl lg0 bud S) (hN:N<=5) (hb:bud<=30000) (ha:(a,.list (as.map vi))∈E) (hz:as.length<=1000) (har:∀l∈as,1<=l.natAbs/\l.natAbs<=N)
  (q:∀A' S' b,M3 N Cl S.log as bud S' b->nt A S A' S' ->Q (.bool b) (.s A' S' E)) (qX:∀A' S' D,Ph N Cl S.log S.clashes bud QH S' ->nt A S A' S' ->Q (.ref D) (.s A' S' ((D,.tup [vi ((S'.clashes:Int)-S.clashes)])::E))):
  gP G (.Call (.Name "_law_asked" p0) [.Name "search" p1,.Name "assumed" p2,.Name "most" p3] [] pos) m (.s A S E) Q:=
 FO hX hn SA Uc m1 m2 m3 (Bz (Cl:=Cl) (lg0:=S.log) (lim:=QH) hN hb hz har) ha hz (R.lim QH).trl.tr R.lock (λ l hl=>by have:=har l hl;lia)
  ⟨(R.lim QH).ask as har rfl,rfl⟩ (λ A' S' b hF hL=>q A' S' b hF ⟨hL.le,hL.at_⟩) (λ A' S' D hF hL=>qX A' S' D hF ⟨hL.le,hL.at_⟩)
end
end
section
structure Hk where
 A:Ad
 S:SS
 cs:oh
 ts:TL
 wa:Addr
 k:Nat
 E0:List (Addr×aT)
 bud:Nat
 lg:List (List Int)
structure Ej(many kk:Nat)(p:Hk):Prop where
 R:q_ many (p.cs.map (·.1)) p.lg p.bud p.S
 inC:Ow p.cs p.E0
 wm:(p.wa,lT p.ts)∈p.E0
 inT:qm p.ts p.E0
 eq:p.ts.map (·.1)=(mT many).filter (pL p.cs)
 rng:Mj many p.cs
 len:p.cs.length<=p.bud
 tk:p.k<=10*p.bud+kk
inductive vQ(many:Nat)(as:List Int)(p:Hk)(QH:Nat):Value->Prop where
 | none (h:QH<=30):vQ many as p QH .none
 | yes (b:Bool) (lg0:List (List Int)) (bud:Nat) (F:M3 many (p.cs.map (·.1)) lg0 as bud p.S b):vQ many as p QH (.bool b)
 | tup (D:Addr) (d:Int) (h:QH<=30) (hD:(D,aT.tup [vi d])∈p.E0):vQ many as p QH (.ref D)
noncomputable def Fj:Value->Bool
 | .bool _=>true
 | _=>false
structure PU(many kk B:Nat)(as:List Int)(aa:Addr)(q:Hk×Value×Nat):Prop where
 J:Ej many kk q.1
 T:vQ many as q.1 q.2.2 q.2.1
 b:q.1.bud<=B+18*q.2.2
 m1:1<=q.2.2
 m2:q.2.2<=60
 ha:(aa,aT.list (as.map vi))∈q.1.E0
noncomputable abbrev J4(fd cl Cl:Addr)(cells:List Int)(p:Hk):List (Addr×aT):=(fd,eN cl p.k)::(cl,.list (cells.map vi))::(Cl,.list (cq p.cs))::p.E0
theorem Ej.csok(J:Ej many kk p)(hm:many<=5)(hb:p.bud<=30000):xI many p.cs:=
 ⟨ac J.len (ac hb (by decide)),λ e he=>⟨ac (J.rng e he).1 (by decide),(J.rng e he).2⟩⟩
theorem Ej.wts(J:Ej many kk p):(∀e∈p.ts,e.1.length=many/\pL p.cs e.1=true)/\p.ts.length<=2^many:=by
 refine ⟨λ e he=>?_,?_⟩
 ·have:=bf (f:=(·.1)) he
  rw [J.eq] at this
  obtain ⟨h1,h2⟩:=bE.mp this
  exact ⟨n9 many _ h1,h2⟩
 ·have:=congrArg fh J.eq
  rw [ae] at this
  rw [this,<-mG]
  exact eU _ _
theorem Ej.wait{A:Ad}{S:SS}{cs:oh}{ts:TL}{wa:Addr}{k bud:Nat}{E0:List (Addr×aT)}{lg lg' :List (List Int)}(J:Ej many kk ⟨A,S,cs,ts,wa,k,E0,bud,lg⟩){A' :Ad}{S' :SS}{E1:List (Addr×aT)}(h:∀p∈E0,p∈E1)(R:q_ many (cs.map (·.1)) lg' (bud+17) S'):Ej many kk ⟨A',S',cs,ts,wa,k,E1,bud+17,lg'⟩:=
 ⟨R,λ e he=>h _ (J.inC e he),h _ J.wm,λ e he=>h _ (J.inT e he),J.eq,J.rng,ac J.len (aB _ _),by have:=J.tk;dsimp only at this⊢;lia⟩
noncomputable abbrev MP(ps:Sg):List (Addr×aT):=ps.map λ e=>(e.2,aT.tup [vi e.1.1,vi e.1.2])
structure PW(many:Nat)(i:Nat)(ys:List Value)(ps:Sg):Prop where
 ys:ys=ps.reverse.map λ e=>bA e.2
 len:ps.length=i
 rng:∀e∈ps,1<=e.1.1/\e.1.1<=many
theorem gt.pre{E E' :List (Addr×aT)}(h:gt a o o' E E'):∀N:List (Addr×aT),gt a o o' (N++E) (N++E')
 | []=>h
 | p::N=> .there (h.pre N)
theorem zi{G:Gx}{A:Ad}{S:SS}{E E' :List (Addr×aT)}(h:E.Perm E'):iG G (.s A S E) (.s A S E'):=λ U (T:St G.me A S U E)=>T.perm h
theorem j4.sz{G:Gx}{f:Addr}{Q:VQ}{z z' :Zs}{vs:List Value}(s:iG G z z')(h:j4 G f vs z' Q):j4 G f vs z Q:=⟨λ U k=>h.run U (s U k)⟩
theorem nM{α:Type}{l₁ l₂:List α}(h:∀ [BEq α] [LawfulBEq α] (a:α),l₁.count a=l₂.count a):l₁.Perm l₂:=by
 letI:=Ql α
 exact List.perm_iff_count.mpr λ a=>h a
section
variable{A A' :Ad}{S S' :SS}{E E' :List (Addr×aT)}{fd cl Cl me:Addr}{cells:List Int}
noncomputable abbrev LG(X:Sx)(me:Addr):Gx:=⟨X,12,me,(GR (uH 19)).names,λ _=>False,True⟩
theorem I5{G:Gx}{z:Zs}{Q:VQ}{tv:Value}{as:List Int}{p:Hk}{QH:Nat}(T:vQ many as p QH tv)(h:∀a xs,(a,aT.tup xs)∈p.E0->∀U,z.ok G U->U.rd a=some (.tup xs))(q:Q (.bool (Fj tv)) z):lA G (.builtin "isinstance") [tv,.type "bool"] z Q:=by
 cases T with
 | none _=>exact F5 q
 | tup D d _ hD=>exact F4 (h _ _ hD) q
 | yes b _ _ _=>exact F6 q
theorem B_{X:Sx}(hX:Dr X)(hcz:cells.length<=1000){many:Nat}(h4:4<=many)(hm:many<=5){p:Hk}(J0:Ej many 200 p)(SJ:p.bud<=20):
  (Wk 99 (LG X me)).s ((qM ((CX X).K.lookup 276)).drop 4) [("search",.me),("worlds",.v (.ref p.wa)),("clauses",.v (.ref Cl)),("many",.v (vn many)),("tape",.v (.ref fd))] (.s p.A p.S (J4 fd cl Cl cells p)) (λ f _ _=>zt f=.bool true):=by
 refine kh (k:=2) (by decide) λ Rg=>?_
 refine .mk Rg (.rng 0 2) (fi 0 2) Hk (λ p=>[("search",.me),("worlds",.v (.ref p.wa)),("clauses",.v (.ref Cl)),("many",.v (vn many)),("tape",.v (.ref fd))]) (λ p=> .s p.A p.S (J4 fd cl Cl cells p)) (λ i p=>Ej many (200+10*i) p/\(Rg,.rng 0 2)∈p.E0/\p.bud<=100+2000*i) ⟨p.A,p.S,p.cs,p.ts,p.wa,p.k,(Rg,.rng 0 2)::p.E0,p.bud,p.lg⟩ rfl rfl ?_ rfl ?_ (λ i p U J k=>eA (.tail _ (.tail _ (.tail _ J.2.1))) k) (λ i p v hv J _=>?_) λ p J _=>rfl
 ·refine ⟨⟨J0.R,λ e he=> .tail _ (J0.inC e he),.tail _ J0.wm,λ e he=> .tail _ (J0.inT e he),J0.eq,J0.rng,J0.len,J0.tk⟩,.head _,?_⟩
  show p.bud<=_
  lia
 ·exact zi (nM λ a=>by simp only [dO,eu,eQ];ac_rfl)
 ·obtain ⟨hi,rfl⟩:=iC hv
  obtain ⟨J,TB,hb⟩:=J
  obtain ⟨A,S,cs,ts,wa,k,E0,bud,lg⟩:=p
  dsimp only at TB hb
  have htk:=J.tk
  dsimp only at htk
  refine nj rfl (Fd.s (k:=k) (E' :=(fd,eN cl (k+1))::(cl,.list (cells.map vi))::(Cl,.list (cq cs))::E0) .here (.tail _ (.head _)) hcz (by lia)) (by decide) λ r Uq hr3=>?_
  obtain ⟨c,rfl⟩:∃c:Nat,r=(c:Int):=⟨r.toNat,(fy Uq).symm⟩
  have hc3:c<3:=by lia
  refine kh (k:=c) (by lia) λ R=>?_
  refine .mk R (.rng 0 c) (fi 0 c) Sg (λ ps=> .s A S (MP ps++(R,.rng 0 c)::(fd,eN cl (k+1+2*ps.length))::(cl,.list (cells.map vi))::(Cl,.list (cq cs))::E0)) (PW many) [] rfl rfl (by rw [dt];lia) ⟨rfl,rfl,λ e he=>nomatch he⟩ cR (λ i ys ps U J k=>eA (ai _ (.head _)) k) (λ j ys ps v hv Jp _=>?_) λ ys ps Jp _ D=>?_
  ·obtain ⟨hj,rfl⟩:=iC hv
   have hlp:=Jp.len
   refine nj rfl (Fd.s (k:=k+1+2*ps.length) (gt.pre (.there .here) (MP ps)) (ai _ (.tail _ (.tail _ (.head _)))) hcz (by lia)) (by lia) λ r1 UH UG=>?_
   refine nj rfl (Fd.s (k:=k+1+2*ps.length+1) (gt.pre (.there .here) (MP ps)) (ai _ (.tail _ (.tail _ (.head _)))) hcz (by lia)) (by decide) λ r2 Zq Zp=>?_
   refine ⟨aH rfl,λ D=>⟨((1+r1,r2),D)::ps,⟨?_,by rw [bF,hlp],λ e he=>?_⟩,?_⟩⟩
   ·rw [gb,aD,Jp.ys];rfl
   ·rcases aL.mp he with rfl | he
    ·exact ⟨by show 1<=1+r1;lia,by show 1+r1<=many;lia⟩
    ·exact Jp.rng e he
   ·exact cR
  ·rw [dt] at Jp
   obtain ⟨hys,hlp,WZ⟩:=Jp
   subst hys
   refine Kg (ps:=ps.reverse) (f:=λ v s=>if s=0 then v else 0-v) rfl rfl rfl rfl rfl rfl (.head _) (λ e he=> .tail _ (ak _ (aJ.mpr ⟨e,gw.mp he,rfl⟩))) (by rw [jx];lia) rfl rfl rfl (λ v s z=>?_) λ B=>?_
   ·exact cD (λ h=>⟨congrArg vi (if_pos h).symm,rfl⟩) λ h=>⟨congrArg vi (if_neg h).symm,rfl⟩
   ·obtain ⟨as,has⟩:∃as:List Int,(ps.reverse.map λ e=>(λ(v s:Int)=>if s=0 then v else 0-v) e.1.1 e.1.2)=as:=⟨_,rfl⟩
    have har:∀l∈as,1<=l.natAbs/\l.natAbs<=many:=λ l hl=>by
     rw [<-has] at hl
     obtain ⟨e,he,rfl⟩:=aJ.mp hl
     have:=WZ e (gw.mp he)
     dsimp only
     split<;>lia
    have haz:as.length<=1000:=by rw [<-has,ae,jx];lia
    rw [has]
    clear has
    refine .mk (Hk×Value×Nat) (λ q=>[("assumed",.v (.ref B)),("most",.v (vn q.2.2)),("told",.v q.2.1),("search",.me),("worlds",.v (.ref q.1.wa)),("clauses",.v (.ref Cl)),("many",.v (vn many)),("tape",.v (.ref fd))]) (λ q=> .s q.1.A q.1.S (J4 fd cl Cl cells q.1)) (λ q=>PU many (200+10*(i+1)) (100+2000*i) as B q/\(Rg,.rng 0 2)∈q.1.E0) (λ q=>if Fj q.2.1 then 0 else 64-q.2.2)
     (⟨A,S,cs,ts,wa,k+1+2*c,(B,.list (as.map vi))::(D,.list (ps.reverse.map λ e=>bA e.2))::(MP ps++(R,.rng 0 c)::E0),bud,lg⟩,.none,1) ⟨?_,?_⟩ rfl ?_ (λ q Jq _=>?_)
    ·refine ⟨⟨J.R,λ e he=> .tail _ (.tail _ (ai _ (.tail _ (J.inC e he)))),.tail _ (.tail _ (ai _ (.tail _ J.wm))),λ e he=> .tail _ (.tail _ (ai _ (.tail _ (J.inT e he)))),J.eq,J.rng,J.len,?_⟩,.none (by show (1:Nat)<=30;decide),?_,az _,by show (1:Nat)<=60;decide,.head _⟩
     ·show k+1+2*c<=10*bud+(200+10*(i+1));lia
     ·show bud<=100+2000*i+18*1;lia
    ·exact .tail _ (.tail _ (ai _ (.tail _ TB)))
    ·rw [hlp];exact zi (nM λ a=>by simp only [dO,eu,eQ];ac_rfl)
    ·clear J hb htk WZ hlp TB
     obtain ⟨Jq,TB⟩:=Jq
     obtain ⟨⟨A,S,cs,ts,wa,k,E0,bud,lg⟩,tv,QH⟩:=q
     obtain ⟨J,T,hb,VM,Uw,UD⟩:=Jq
     dsimp only at T hb VM Uw UD TB
     have htk:=J.tk
     have hln:=J.len
     dsimp only at htk hln
     obtain ⟨hte,TN⟩:=J.wts
     dsimp only at hte TN
     have hp5:2^many<=2^5:=iX (by decide) hm
     have hbb:bud<=4000:=by lia
     have hcs:=J.csok hm (by show bud<=30000;lia)
     refine I5 T (λ a xs h=>gg (.tail _ (.tail _ (.tail _ h)))) ?_
     refine ⟨λ hnb=>?_,λ hnb=>?_⟩
     ·have Ua:Fj tv=false:=(b9 _).mp hnb
      have hmo:QH<=30:=by
       cases T with
       | none h=>exact h
       | tup _ _ h _=>exact h
       | yes _ _ _ _=>cases Ua
      have Wp:=J.R.b2
      dsimp only at Wp
      refine tN jH (by rw [show (ou A S S.log.length).length=S.log.length from fV _ _];lia) λ El=>?_
      have hμ:Fj tv=false->(if Fj tv=true then 0 else 64-QH)=64-QH:=λ h=>by rw [h];rfl
      refine CW hX rfl trivial rfl rfl rfl rfl J.R hm (by show bud<=30000;lia) (.tail _ (.tail _ (.tail _ (.tail _ UD)))) haz har (λ A' S' b F Lk=>?_) λ A' S' D F Lk=>?_
      ·have Tw:ou A S S.log.length=ou A' S' S.log.length:=dF λ j hj=>congrArg bA (Lk.at_ j (cE.mp hj)).symm
       have hb2:S'.log.length<=bud+17:=F.rs.b2
       refine pB (many:=many) (cs:=cs) (ts:=ts) (k0:=S.log.length) rfl (aY (.tail _ (.tail _ (.tail _ (.head _))))) (λ e he=>gg (.tail _ (.tail _ (.tail _ (.tail _ (J.inC e he)))))) hcs (by lia) (by lia) (by lia) (.tail _ (.tail _ (.tail _ (.tail _ J.wm)))) (λ e he=> .tail _ (.tail _ (.tail _ (.tail _ (J.inT e he))))) (λ e he=>(hte e he).1) (by lia) (by rw [Tw];exact .head _) Lk.le F.rs.lg (λ e he=>yr J.rng F.rs.lg (hte e he).2) (cF ?_)
       refine yR (cF (cF ?_))
       refine yR (cF (cF ?_))
       refine qR (by decide) ?_
       refine ⟨(⟨A',S',cs,ts,wa,k,(El,.list (ou A S S.log.length))::E0,bud+17,S.log⟩,.bool b,2*QH),⟨⟨⟨J.wait (λ p hp=> .tail _ hp) F.rs,.yes b _ _ F,?_,?_,?_,.tail _ UD⟩,.tail _ TB⟩,?_⟩,rfl,zi (nM λ a=>by simp only [dO,eu,eQ];ac_rfl)⟩
       ·show bud+17<=100+2000*i+18*(2*QH);lia
       ·show 1<=2*QH;lia
       ·show 2*QH<=60;lia
       ·show 0<(if Fj tv=true then 0 else 64-QH);rw [hμ Ua];lia
      ·have Tw:ou A S S.log.length=ou A' S' S.log.length:=dF λ j hj=>congrArg bA (Lk.at_ j (cE.mp hj)).symm
       have hb2:S'.log.length<=bud+17:=F.rs.b2
       have hlo:(QH:Int)<=(S'.clashes:Int)-(S.clashes:Int):=F.lo
       have hup:S'.clashes<S.clashes+16:=F.up
       have hcl:cs.length<=10000:=by lia
       have htz:ts.length<=1000000:=by lia
       refine pB (many:=many) (cs:=cs) (ts:=ts) (k0:=S.log.length) rfl (aY (.tail _ (.tail _ (.tail _ (.tail _ (.head _)))))) (λ e he=>gg (.tail _ (.tail _ (.tail _ (.tail _ (.tail _ (J.inC e he))))))) hcs hcl (by lia) (by lia) (.tail _ (.tail _ (.tail _ (.tail _ (.tail _ J.wm))))) (λ e he=> .tail _ (.tail _ (.tail _ (.tail _ (.tail _ (J.inT e he)))))) (λ e he=>(hte e he).1) htz (by rw [Tw];exact .tail _ (.head _)) Lk.le F.rs.lg (λ e he=>yr J.rng F.rs.lg (hte e he).2) (cF ?_)
       generalize hd:(S'.clashes:Int)-(S.clashes:Int)=d at hlo
       refine yQ (gg (.head _)) (cT (De (i:=0) (gg (.head _)) (Int.le_refl _) (aH rfl) rfl (cD (λ h=>absurd h (by lia)) λ _=>(cD (λ h=>absurd h (by lia)) λ _=>cF (cF ?_)))))
       have hm15:QH<=15:=by lia
       refine yQ (gg (.head _)) (cT ?_)
       refine nj rfl (Fd.s (k:=k) (.there (.there .here)) (.tail _ (.tail _ (.tail _ (.head _)))) hcz (by lia)) (by decide) λ r Uq hr3=>cD (λ h2=>cT ?_) λ h2=>cF ?_
       ·refine bk (wY (aY (.tail _ (.tail _ (.tail _ (.tail _ (.head _))))))) ?_
        refine j4.sz (z' :=.s A' S' ((fd,eN cl (k+1))::(cl,.list (cells.map vi))::(D,.tup [vi d])::(El,.list (ou A S S.log.length))::(Cl,.list (cq cs))::E0)) (zi (nM λ a=>by simp only [dO,eu,eQ];ac_rfl)) ?_
        refine vA (zf:=λ E=> .s A' S' E) (k:=k+1) (.s A' S') rfl hcz (by lia) (by lia) (by lia) λ ls Dc w XJ XH SH=>?_
        have hll:=SH.len
        have hrl:(cq cs).length=cs.length:=ae ..
        refine tP (xs:=cq cs) (v:=.ref Dc) (.there (.there (.there (.there (.there .here))))) (by lia) ?_
        refine Am (xs:=cq cs) (v:=.ref Dc) (aY (.tail _ (.tail _ (.tail _ (.tail _ (.tail _ (.head _))))))) (by lia) ?_
        refine IZ (o:=.tup (ls.map vi)) rfl (.head _) rfl F.rs (by lia) (by show bud+17<=40000;lia) (by lia) SH.rng λ A2 S2 b2 R2=>?_
        refine tL (λ h=>(bw h).elim) (aY (.tail _ (.tail _ (.tail _ (.tail _ (.tail _ (.head _))))))) (by rw [av,aG];lia) λ D2=>?_
        rw [zv]
        refine tG (cs:=[(ls,Dc)]) rfl (by lia) (.tail _ (.tail _ (.tail _ (.tail _ (.tail _ (.tail _ (.tail _ J.wm))))))) (λ e he=> .tail _ (.tail _ (.tail _ (.tail _ (.tail _ (.tail _ (.tail _ (J.inT e he)))))))) (λ e he=>(hte e he).1) htz (aY (.head _)) (λ e he=>by rw [al.mp he];exact gg (.tail _ (.head _))) ⟨aH rfl,λ e he=>by rw [al.mp he];exact ⟨by show ls.length<=_;lia,SH.rng⟩⟩ λ D3 N _ hD3=>?_
        refine qR (by decide) ?_
        refine ⟨(⟨A2,S2,cs++[(ls,Dc)],ts.filter λ e=>pL [(ls,Dc)] e.1,D3,k+1+4,N++(D2,.list [.ref Dc])::(Dc,.tup (ls.map vi))::(D,.tup [vi d])::(El,.list (ou A S S.log.length))::E0,bud+17+1,S.log⟩,.ref D,2*QH),⟨⟨⟨?_,.tup D d (by show 2*QH<=30;lia) (ai _ (.tail _ (.tail _ (.head _)))),?_,?_,?_,ai _ (.tail _ (.tail _ (.tail _ (.tail _ UD))))⟩,ai _ (.tail _ (.tail _ (.tail _ (.tail _ TB))))⟩,?_⟩,rfl,?_⟩
        ·refine ⟨by rw [aD];exact R2,λ e he=>?_,?_,λ e he=>ai _ (.tail _ (.tail _ (.tail _ (.tail _ (J.inT e (bE.mp he).1))))),?_,λ e he=>?_,?_,?_⟩
         ·rcases aw.mp he with h | h
          ·exact ai _ (.tail _ (.tail _ (.tail _ (.tail _ (J.inC e h)))))
          ·rw [al.mp h];exact ai _ (.tail _ (.head _))
         ·exact ak _ (hD3 (λ h=>nomatch h))
         ·show (ts.filter λ e=>pL [(ls,Dc)] e.1).map (·.1)=(mT many).filter (pL (cs++[(ls,Dc)]))
          have e1:(ts.filter λ e=>pL [(ls,Dc)] e.1).map (·.1)=(ts.map (·.1)).filter (pL [(ls,Dc)]):=by rw [i9];rfl
          rw [e1,J.eq,AX]
          refine kq λ b _=>?_
          rw [uR,JE]
          congr 1
          unfold pL;simp
         ·rcases aw.mp he with h | h
          ·exact J.rng e h
          ·rw [al.mp h];exact ⟨by show ls.length<=3;lia,SH.rng⟩
         ·show (cs++[(ls,Dc)]).length<=bud+17+1
          rw [av,aG];lia
         ·show k+1+4<=10*(bud+17+1)+(200+10*(i+1));lia
        ·show bud+17+1<=100+2000*i+18*(2*QH);lia
        ·show 1<=2*QH;lia
        ·show 2*QH<=60;lia
        ·show 64-2*QH<(if Fj tv=true then 0 else 64-QH);rw [hμ Ua];lia
        ·have e2:cq (cs++[(ls,Dc)])=cq cs++[.ref Dc]:=aD
         refine zi ?_
         show OR _ ((fd,eN cl (k+1+4))::(cl,aT.list (cells.map vi))::(Cl,aT.list (cq (cs++[(ls,Dc)])))::_)
         rw [e2]
         refine nM λ a=>?_
         simp only [dO,eu,eQ]
         ac_rfl
       ·refine qR (by decide) ?_
        refine ⟨(⟨A',S',cs,ts,wa,k+1,(D,.tup [vi d])::(El,.list (ou A S S.log.length))::E0,bud+17,S.log⟩,.ref D,2*QH),⟨⟨⟨?_,.tup D d (by show 2*QH<=30;lia) (.head _),?_,?_,?_,.tail _ (.tail _ UD)⟩,.tail _ (.tail _ TB)⟩,?_⟩,rfl,zi (nM λ a=>by simp only [dO,eu,eQ];ac_rfl)⟩
        ·exact ⟨F.rs,λ e he=> .tail _ (.tail _ (J.inC e he)),.tail _ (.tail _ J.wm),λ e he=> .tail _ (.tail _ (J.inT e he)),J.eq,J.rng,ac J.len (aB _ _),by show k+1<=10*(bud+17)+(200+10*(i+1));lia⟩
        ·show bud+17<=100+2000*i+18*(2*QH);lia
        ·show 1<=2*QH;lia
        ·show 2*QH<=60;lia
        ·show 64-2*QH<(if Fj tv=true then 0 else 64-QH);rw [hμ Ua];lia
     ·have Ua:Fj tv=true:=(oA _).mp hnb
      cases T with
      | none _=>cases Ua
      | tup _ _ _ _=>cases Ua
      | yes b lg0 Y8 F=>
       obtain ⟨f1,f2,f3⟩:=Aq J.rng J.eq har F
       refine qL rfl (by lia) (.tail _ (.tail _ (.tail _ J.wm))) (λ e he=> .tail _ (.tail _ (.tail _ (J.inT e he)))) (λ e he=>(hte e he).1) (ac TN (ac hp5 (by decide))) (.tail _ (.tail _ (.tail _ UD))) haz har f1 f2 f3 (cF ?_)
       exact ⟨⟨A,S,cs,ts,wa,k,E0,bud,lg⟩,⟨J,TB,by show bud<=_;lia⟩,rfl,cR⟩
end
end
section
noncomputable def L8(C:Cx)(f:Addr)(args:List Value)(P:fT->Prop)(Q:Value->Prop):Prop:=
 ∀s QE,l5 C s->DN C s.heap->QE.map er=args->P s.heap->
  ij (bL C.prog C.w) callerA (.call (.ref f) ⟨QE,[]⟩) (λ r s' =>∃v,r=.ok (.ret v)/\Q (er v)/\(∀b o,s.heap.get? b=some o->s'.heap.get? b=some o)/\l5 C s') s
theorem Dt{P:fT->Prop}{names:List Str}{Q:Value->Prop}
  (ho:C.K.lookup f=some ⟨oc,od,.func (Qa name qual params body scope dV kV Sd pm an cdv ct),Um⟩) (Rz:OJ C.K cdv qual=true)
  (hlen:args.length=names.length)
  (Rl:∀vs:List Value,vs.length=names.length->GE (Qa name qual params body scope dV kV Sd pm an cdv ct) ⟨vs,[]⟩=dG (names.zip vs))
  (hkind:∀x∈names,hV x=true/\(scope.names.lookup x=some .local\/scope.names.lookup x=some .cell))
  (hnd:((dg 0 scope.names []).map (·.1)).Nodup) (Tj:∀x∈scope.names,x.2≠ .free)
  (Tz:scope.isCoroutine=false) (RZ:scope.isGenerator=false) (hk:scope.kind=.function) (hn:n<=25)
  (hw:∀b:Bk,b.outer=[]->b.base=b.h₀->P b.h₀->WS C (Fn b qual scope f cdv) n body (wO (names.zip args) λ V=>none) [] λ fl V U' =>Q (er (match fl with | .ret v=>v | _=> .none))):
  L8 C f args P Q:=by
 intro s QE hC G Ro hP
 have hlen' :QE.length=names.length:=dI hlen (dI Ro (ah (ae ..) rfl))
 have hsub:names.zip args=(names.zip QE).map λ p=>(p.1,er p.2):=dI Ro (af gW rfl)
 refine codeAny_call_function (by decide) (G.X _ _ ho) rfl Tz RZ rfl (rg G.X Rz) (iF (Rl QE hlen') _ _ _ _ (wpAny_newFunctionEnv_cells hk ?_ λ WD he s' x=>?_))
 ·intro x hx
  have hxn:x.1∈names:=(ff (a:=x.1) (b:=x.2) hx).1
  rcases (hkind _ hxn).2 with q | q
  ·exact .inl q
  ·exact .inr ⟨q,fN _ _ _ (.inl q)⟩
 subst he
 refine ⟨G.T.nolimit.keeps x.toInCall.keep,codeAny_func (ck x.done λ QC tk QI V=>?_)⟩;subst QI
 have Rj:=x.toInCall.keep
 refine aM (Cl.news (h₀:=s.heap) (az _) λ n c hm=>⟨x.cell n c (lookup_of_mem_nodup (cellsFrom_names scope.names 0 (s.heap.objs.size+1) [] [] rfl▸hnd) hm),x.above n c hm⟩) λ cells NC Y=>?_
 have F' :Fr s.heap s.heap.objs.size QC (bindL (DW qual scope s.heap.objs.size f cdv).kindOf (names.zip QE) λ V=>none):=⟨x.toInCall.ns,x.toInCall.keep,x.toInCall.fresh⟩
 let b:Bk:=⟨callerA,callerA,[],s.heap,s.heap,s.heap.objs.size⟩
 have SM:=iD scope.names (s.heap.objs.size+1) (s.heap.objs.size+1) [] (λ V h=>nomatch h) .nil (az _)
 have O:(Fn b qual scope f cdv).Ok C n:=by
  refine ⟨below_caller s.heap,rfl,rfl,hk,G,hk,rfl,rfl,λ V=>rfl,(λ h=>nomatch h),rfl,SM.1,λ x hx=>?_,λ V V h=>h,λ x hx V=>?_,?_,?_,qz⟩
  ·exact gk (bu (SM.2 x hx))
  ·rcases hx with hx | hx
   ·exact bW.mp (fN _ _ _ (.inl hx))
   ·exact absurd rfl (Tj _ (mem_of_lookup hx))
  ·have h1:(Fn b qual scope f cdv).A.depth=302:=rfl
   have:kY=1000:=rfl
   exact Kr this h1 hn
  ·have h1:(Fn b qual scope f cdv).A.units<=100:=by refine (?_:callerA.units+_<=_);decide
   have:cLine=9900:=rfl
   exact Kq this h1 hn
 have R' :cj C (Fn b qual scope f cdv) [] {s with heap:=QC,toks:=tk} (wO (names.zip args) λ V=>none) []:=by
  have cellOwn:∀a∈(Fn b qual scope f cdv).ownA,∃o,(a,o)∈cells:=by
   intro a ha
   simp only [c_.ownA,nE,bX,if_false,dh] at ha
   refine aM (aJ.mp ha) λ x hx QL=>?_;subst QL
   exact aM (gh Y x hx) λ o h V=>⟨o,h⟩
  refine ⟨hC.upd,⟨_,F'⟩,(λ V h=>nomatch h),⟨_,F'.ns⟩,?_,?_,?_,(λ V h=>nomatch h),(λ V V h=>nomatch h),(λ V V h=>nomatch h)⟩
  ·intro x v hx
   replace hx:=hsub▸hx
   obtain ⟨a,cv,e,q⟩:=qO (DW qual scope s.heap.objs.size f cdv).kindOf (names.zip QE) (λ V=>none) (λ V=>none) (λ V=>none) (λ V V h=>nomatch h)
    (λ p hp=>hkind _ (ff (a:=p.1) (b:=p.2) hp).1) x v hx
   simp only [hV,dk,b9] at a
   refine ⟨a.1,a.2,cv,e,?_⟩
   rcases q with ⟨k,q⟩ | ⟨k,q⟩
   ·exact .inl ⟨k,_,F'.ns,q⟩
   ·refine .inr ⟨.inl k,?_⟩
    have hs:((dg (s.heap.objs.size+1) scope.names []).lookup x).isSome=true:=fN _ _ _ (.inl k)
    exact aS (bW.mp hs) λ c hc=>(aM (gh Y _ (mem_of_lookup hc)) λ o h hd=>⟨c,hc,o,(NC _ h).1,af hd (congrArg _ q)⟩)
  ·intro x hx
   exact aM (gh Y x hx) λ o h hd=>(iI _ o ((NC _ h).1) hd)
  ·intro a ha
   exact aS (cellOwn a ha) λ o h=>(cu (NC _ h) λ h1 h2 h3=>(du ⟨⟨o,h1⟩,h2,h3⟩ rfl (λ V h=>nomatch h)))
 refine cz (hw b rfl rfl hP O _ _ _ R' λ fl s' m' U' Q9 hq=>?_) (λ V V q=>q) qz
 exact pq _ rfl hq (λ b o e=>Q9.keep b o e) Q9.core
end
section
section
variable{C:Cx}{F:c_}{n:Nat}{m:Str->Option Value}{U U' :AH}{P:Option (Addr×Ad×SS)}{E E' :List (Addr×aT)}
theorem Ja{vs xs:List Value}{value:Expr}{hi:Expr}{p pos:Pos}{Q:Value->AH->Prop}(hs:yX (.Slice none (some hi) none p))(hh:F.h₀.IsList a vs.toArray)(hx:vs.map er=xs)(hz:xs.length<=1000000)(H:HS P U E)
  (hv:∀K:Value->AH->Prop,K (.ref a) U->WE C F n value m U K) (hu:∀K:Value->AH->Prop,K (vi i) U->WE C F n hi m U K)
  (h:∀D U',HS P U' ((D,.list (jS xs none (some i) none))::E)->Q (.ref D) U'):WE C F n (.Subscript value (.Slice none (some hi) none p) pos) m U Q:=λ O Z s W R K=>
 JB (hv (λ v U' =>v=.ref a/\U' =U) ⟨rfl,rfl⟩ O Z s _ R λ o s₁ U1 R₁ ⟨e,V5⟩=>by
  refine jz e ?_
  clear R hv;subst V5
  have h2:WP C F n (some hi) m U1 (λ u U' =>u=some i/\U' =U1):=hu (λ v U' =>∃k,v=vi k/\some k=some i/\U' =U1) ⟨i,rfl,rfl,rfl⟩
  have h1:WP C F n none m U1 (λ u U' =>u=none/\U' =U1):=⟨rfl,rfl⟩
  refine Qn (cz (h1.run O R₁) (λ l s₂ ⟨QB,li,R₂,pl,e2,e2'⟩=>by
   clear R₁ h1 hu;subst e2 e2'
   exact cz (h2.run O R₂) (λ u s₃ ⟨QG,ui,R₃,pu,e3,e3'⟩=>by
    clear R₂ h2;subst e3 e3'
    have h3:WP C F n none m QG (λ u U' =>u=none/\U' =QG):=⟨rfl,rfl⟩
    exact cz (h3.run O R₃) (λ c s₄ ⟨U4,ci,R4,pc,e4,e4'⟩=>by
     clear R₃ h3;subst e4 e4'
     have hlen:=dw hx
     refine c9 hh λ ob hob hc QI=>?_;clear hh;refine aS QI λ k hd=>?_;clear QI
     have hl:s₄.heap.IsList a vs.toArray:=⟨ob,R4.keep _ _ hob,hc,k,hd⟩
     have R5:cj C F Z {s₄ with heap:=s₄.heap.push {cls:=.type "slice",data:=.fields #[l,u,c]}} m U4:=R4.grow O ⟨R4.core.gens,R4.core.os,R4.core.dr⟩ λ b o e=>aW _ e
     have hl' :(s₄.heap.push {cls:=.type "slice",data:=.fields #[l,u,c]}).IsList a vs.toArray:=⟨ob,aW _ (R4.keep _ _ hob),hc,k,hd⟩
     refine aS (hs (.ref a) (.ref s₄.heap.objs.size)) λ RM e=>(OB (T:="list") (s:={s₄ with heap:=s₄.heap.push {cls:=.type "slice",data:=.fields #[l,u,c]}}) hl'.typeIs lB.lookup (AC hl' (rq _ _ _ _) pl pu pc (by simp) (K _ _ _ (R5.push (tk:=s₄.toks) O (o:={cls:=.type "list",data:=.seq (mU vs.toArray none (some i) none)}) (ao:=.list (jS xs none (some i) none)) ?_).1 (h _ _ (H.fresh (R5.fresh R5.size_none)))) (ah bo (ah cB (ac (aC hlen) (ac hz (aj _ _)))))) e)
     refine iI ((mU vs.toArray none (some i) none).toList) 0 ?_ ?_
     ·exact ah iP (cf _ rfl)
     ·exact af (yh ..) (ah hx rfl)) qz) qz) qz))
noncomputable def P3(D:Addr)(a va b vb:Value)(U:AH)(Q:Value->AH->Prop):Prop:=∃i j P E E',a=.str i 0/\b=.str j 0/\i≠j/\HS P U E/\gt D (.sdict []) (.sdict [(i,va),(j,vb)]) E E' /\∀U',HS P U' E' ->Q (.ref D) U'
theorem zS{Q:Value->AH->Prop}(H:HS P U E)(h:∀D U',HS P U' ((D,.sdict [])::E)->WE C F n k1 m U' λ a U1=>WE C F n v1 m U1 λ va QB=>WE C F n k2 m QB λ b QG=>WE C F n v2 m QG λ vb U4=>P3 D a va b vb U4 Q):WE C F n (.Dict [some k1,some k2] [v1,v2] pos) m U Q:=
 Av λ D hD=>(h D _ (H.fresh hD)).mono λ a U1 QC=>QC.mono λ va QB QP=>QP.mono λ b QG Q_=>Q_.mono λ vb U4 QL=>by refine vf QL λ i j P E QT=>?_;clear QL;obtain ⟨E',e1,e2,e3,H',ht,q⟩:=QT;exact LL i j e1 e2 e3 (H'.at_ ht.mem) (q _ (H'.turn ht))
theorem zU(p:fB):oq (KK p) cX "Search"=some (some (.ref 220)):=by kernel_rfl
end
theorem Ds{R:dZ->Zs->Prop}{Q:fH->(Str->Option Value)->AH->Prop}(g:GF G F)(hR:∀m z U,R m z->z.ok G U->WS (CX G.X) F G.n rest (cH G.me m) U Q):
  ∀(pre:List Stmt) (k:Nat) (m:dZ) (z:Zs) (U:AH),(Wk k G).s pre m z (λ f m z=>f=.next/\R m z)->z.ok G U->WS (CX G.X) F G.n (pre++rest) (cH G.me m) U Q
 | _,0,_,_,_,h,_=>h.elim
 | [],k+1,m,z,U,h,ok=>hR m z U h.2 ok
 | b::r,k+1,m,z,U,h,ok=>n_ ((sT (iQ k) h g ok).mono λ f m' U' QI=>by
   obtain ⟨Q1,QM,e,Tf,q⟩:=QI
   subst e
   cases f with
   | next=>exact Ds g hR r k Q1 QM U' q Tf
   | _=>cases q.1)
theorem I9{R:dZ->Zs->Prop}{Q:fH->(Str->Option Value)->AH->Prop}(i:Nat)(g:GF G F)(ok:z.ok G U)(h:(Wk 99 G).s (body.take i) m z (λ f m z=>f=.next/\R m z))
  (hR:∀m z U,R m z->z.ok G U->WS (CX G.X) F G.n (body.drop i) (cH G.me m) U Q):WS (CX G.X) F G.n body (cH G.me m) U Q:=
 mO i body▸Ds g hR (body.take i) 99 m z U h ok
theorem BX{m:Str->Option Value}(e:cH me [(x,.v w)] y=some v):fe m x w y=some v:=by
 replace e:=(show cH me [(x,.v w)]=fe (cH me []) x w from (dA me [] x w).symm)▸e
 unfold fe at e⊢
 split at e
 ·rename_i h;exact af (if_pos h) e
 ·exact (bw e).elim
theorem qh:∀{m:dZ},m.all (λ p=> !p.2.isMe)=true->cH me m=cH me' m
 | [],_=>rfl
 | (x,w)::r,h=>by
  refine aU (bg.mp h) λ h1 h2=>?_
  have ih:=qh (me:=me) (me' :=me') h2
  funext y
  have e:=congrFun ih y
  unfold cH at e⊢
  refine ah bq ?_
  (try clear h);cases y==x with
  | true=>
   (try clear h);cases w with
   | v x=>rfl
   | me=>exact (jD h1).elim
  | false=>exact e
theorem uX(x y:Str)(v:Value)(h:m.all (λ p=> !p.2.isMe)=true):fe (fe (cH 0 m) y v) x (.ref me)=cH me ((x,.me)::put m y v):=by
 refine ah (qh (me' :=me) h) (ah (dA ..) (af (dA ..) ?_))
 funext z
 unfold cH put
 simp only [bq]
 cases z==x<;>rfl
theorem GN{G:Gx}{E E' :List (Addr×aT)}(h:E.Perm E'):iG G (.no E) (.no E'):=λ V T=>Fl.perm T h
structure M1 where
 cs:oh
 kk:Nat
 N:List (Addr×aT)
structure Pg(k i:Nat)(p:M1):Prop where
 all:Ow p.cs p.N
 len:p.cs.length=i
 le:p.kk<=2+5*i
 rng:Mj k p.cs
inductive Ji(fd cl:Addr)(cells:List Int):dZ->Zs->Prop where
 | mk (k:Nat) (Cl:Addr) (p:M1) (i:Nat) (h4:4<=k) (h5:k<=5) (h6:6<=i) (hi:i<=11) (J:Pg k i p):
  Ji fd cl cells [("clauses",.v (.ref Cl)),("many",.v (vn k)),("tape",.v (.ref fd))] (.no ((fd,eN cl p.kk)::(cl,.list (cells.map vi))::(Cl,.list (cq p.cs))::p.N))
theorem Ca{X:Sx}{fd cl:Addr}{cells:List Int}(hcz:cells.length<=1000):(Wk 99 (LG X 0)).s (((qM ((CX X).K.lookup 276)).drop 1).take 2) [("tape",.v (.ref fd))] (.no ((fd,eN cl 0)::(cl,.list (cells.map vi))::[])) (λ f m z=>f=.next/\Ji fd cl cells m z):=by
 refine nj rfl (Fd.no (k:=0) (E' :=(fd,eN cl 1)::(cl,.list (cells.map vi))::[]) .here (.tail _ (.head _)) hcz (by lia)) (by decide) λ r Uq Ub=>?_
 obtain ⟨c,rfl⟩:∃c:Nat,r=(c:Int):=⟨r.toNat,(fy Uq).symm⟩
 have hc2:c<2:=by lia
 refine bk (bb _) λ Cl=>?_
 obtain ⟨k,hk⟩:∃k:Nat,(4:Int)+(c:Int)=(k:Int):=⟨4+c,by lia⟩
 have hk5:k<=5:=by lia
 have hk4:4<=k:=by lia
 refine nj rfl (Fd.no (k:=1) (E' :=(Cl,.list [])::(fd,eN cl 2)::(cl,.list (cells.map vi))::[]) (.there .here) (.tail _ (.tail _ (.head _))) hcz (by lia)) (by decide) λ r Uq Zl=>?_
 obtain ⟨c2,rfl⟩:∃c:Nat,r=(c:Int):=⟨r.toNat,(fy Uq).symm⟩
 have hc6:c2<6:=by lia
 refine (?_:lA _ (.type "range") [vi (6+(c2:Int))] _ _)
 refine ah (show (6:Int)+(c2:Int)=((6+c2:Nat):Int) from by lia) (kh (show 6+c2<=1000000 by lia) λ R=>?_)
 refine .mk R (.rng 0 (6+c2)) (fi 0 (6+c2)) M1 (λ _=>[("clauses",.v (.ref Cl)),("many",.v (vn k)),("tape",.v (.ref fd))]) (λ p=> .no ((fd,eN cl p.kk)::(cl,.list (cells.map vi))::(Cl,.list (cq p.cs))::p.N)) (λ i p=>Pg k i p/\(R,.rng 0 (6+c2))∈p.N) ⟨[],2,[(R,.rng 0 (6+c2))]⟩ rfl rfl ⟨⟨(λ e he=>nomatch he),rfl,az _,(λ e he=>nomatch he)⟩,.head _⟩ ?_ (GN (nM λ a=>by simp only [dO,eu,eQ];ac_rfl)) (λ i p U J k=>EQ (.tail _ (.tail _ (.tail _ J.2))) k) (λ i p v hv J _=>?_) λ p J _=>?_
 ·show qu _ (put (put _ ("many":Str) (vi (4+(c:Int)))) ("clauses":Str) (.ref Cl)) _
  rw [hk];rfl
 ·obtain ⟨hi,rfl⟩:=iC hv
  obtain ⟨⟨cs,kk,N⟩,JR⟩:∃q:M1,q=p:=⟨p,rfl⟩
  subst JR
  obtain ⟨J,hR⟩:=J
  have hle:=J.le
  have hln:=J.len
  dsimp only at hle hln
  have hrl:(cq cs).length=cs.length:=ae ..
  refine bk (wY (ER (.tail _ (.tail _ (.head _))))) ?_
  refine vA (zf:=λ E=> .no E) (k:=kk) .no rfl hcz (by lia) (by lia) (by lia) λ ls D w XJ XH SH=>?_
  have hll:=SH.len
  refine ym (xs:=cq cs) (v:=.ref D) (.there (.there (.there .here))) (by lia) ?_
  have e2:cq (cs++[(ls,D)])=cq cs++[.ref D]:=aD
  refine ⟨⟨cs++[(ls,D)],kk+4,(D,.tup (ls.map vi))::N⟩,⟨⟨λ e he=>?_,by show (cs++[(ls,D)]).length=i+1;rw [av,hln];rfl,by show kk+4<=2+5*(i+1);lia,λ e he=>?_⟩,.tail _ hR⟩,rfl,?_⟩
  ·rcases aw.mp he with h | h
   ·exact .tail _ (J.all e h)
   ·rw [al.mp h];exact .head _
  ·rcases aw.mp he with h | h
   ·exact J.rng e h
   ·rw [al.mp h];exact ⟨by show ls.length<=3;lia,SH.rng⟩
  ·refine GN ?_
   show OR _ ((fd,eN cl (kk+4))::(cl,aT.list (cells.map vi))::(Cl,aT.list (cq (cs++[(ls,D)])))::_)
   rw [e2]
   refine nM λ a=>?_
   simp only [dO,eu,eQ]
   ac_rfl
 ·rw [dt] at J
  exact ⟨rfl,.mk k Cl p (6+c2) hk4 hk5 (by lia) (by lia) J.1⟩
end
section
noncomputable abbrev FL(X:Sx)(b:Bk):c_:=Fn b "law" (GR (uH 19)) 276 (.ref 275)
theorem w5{X:Sx}{b:Bk}(me:Addr)(h1:b.outer=[])(h2:b.base=b.h₀):GF (LG X me) (FL X b):=⟨λ x k e V=>e,λ x e=> .inr e,rfl,rfl,λ V V q V=>q.elim,λ _=>⟨h1,h2⟩⟩
theorem Iw{G:Gx}{F:c_}{m:Str->Option Value}{U:AH}{Q:Value->AH->Prop}(g:GF G F)(hc:pe G sc t=true)(hs:∀x,cP it F.env x=dG x)(h:WE (CX G.X) F G.n it m U λ x U1=>XD (CX G.X) F G.n QO t ifs sc m x U1 Q):WE (CX G.X) F G.n (.ListComp QO [⟨.Name t tp,it,ifs,0⟩] sc pos) m U Q:=
 λ O=>w0 (pb g O hc).ok hs (pb g O hc).nf (pb g O hc).st h O
theorem B9{X:Sx}(hX:Dr X){xs:List Int}(hz:xs.length<=63):L8 (CX X) 276 [.ref sa] (λ h=>∃vs:List Value,h.IsList sa vs.toArray/\vs.map er=xs.map vi) (· =.bool true):=by
 refine Dt (n:=12) (names:=["script"]) rfl rfl rfl (λ vs h=>by refine aS (u2 h) λ V QL=>?_;subst QL;rfl) (by decide) (by decide) (by decide) rfl rfl rfl (by decide) ?_
 intro b hbo hbb QT;refine aM QT λ vs hL hx=>?_;clear QT
 have H0:HS none [] []:=(⟨λ p hp=>(by cases hp),gm⟩:Fl [] [])
 have gf:GF (LG X 0) (FL X b):=w5 0 hbo hbb
 refine n_ (oU rfl ⟨rfl,rfl,.inr ⟨rfl,_,rfl⟩⟩ ?_)
 refine zS H0 λ fd U1 H1=>xC (Iw (G:=LG X 0) gf rfl (λ x=>rfl) (Ja (a:=sa) (i:=63) (λ V V=>⟨_,rfl⟩) hL hx (ah (ae ..) (ac hz (aj _ _))) H1 (λ K k=>d6 (nO (show [aF "script"].Nodup by decide) rfl) k) (λ K k=>tV k) λ S0 QB H2=>?_))
 have h50:jS (xs.map vi) none (some 63) none=xs.map vi:=by
  rw [show (63:Int)=((63:Nat):Int) from rfl,iZ,fK (by rw [ae];exact hz)]
 replace H2:=h50▸H2
 refine .inl ⟨S0,.list (xs.map vi),xs.map vi,λ i ys U=>ys=((xs.take i).map λ x=>(x.natAbs:Int)).map vi/\HS none U ((S0,.list (xs.map vi))::(fd,.sdict [])::[]),rfl,rfl,by rw [ae];lia,⟨rfl,H2⟩,λ i ys U J=> .inl (J.2.at_ (.head _)),λ L2 mL i v ys U hv J=>?_,λ ys U cl J hcl=>?_⟩
 ·obtain ⟨x,XF,rfl⟩:=eE hv
  refine sJ (nr rfl (GU _ (dW (show C5.lookup (aF "abs")=some (.builtin "abs") from rfl))) (Hg (dW (show C5.lookup (aF "abs")=some (.builtin "abs") from rfl))) (by decide) rfl (d5 rfl) (e_ (λ _=>rfl) (d6 rfl (jW (xr ⟨?_,J.2⟩)))))
  rw [J.1,ba,XF,aD,aD];rfl
 ·obtain ⟨hys,H3⟩:=J
  rw [ae,aX] at hys
  subst hys
  have hcz:(xs.map λ x=>(x.natAbs:Int)).length<=1000:=by rw [ae];lia
  generalize (xs.map λ x=>(x.natAbs:Int))=cells at hcz
  have H4:HS none (U.put cl (.list (cells.map vi))) ((cl,.list (cells.map vi))::(S0,.list (xs.map vi))::(fd,.sdict [])::[]):=HS.fresh (P:=none) H3 hcl
  refine xC (tV ⟨_,_,_,_,_,rfl,rfl,by decide,H4,.there (.there .here),λ U4 H5=>?_⟩)
  have H6:Zs.ok (LG X 0) (.no ((fd,eN cl 0)::(cl,aT.list (cells.map vi))::[])) U4:=(Fl.subl (E' :=[(cl,aT.list (cells.map vi)),(fd,eN cl 0)]) H5 (.cons_cons _ (.cons _ (.refl _)))).perm (p_ _ _ _)
  clear H2 H3 H4 H5 H0 H1
  refine WS.mem (I9 (G:=LG X 0) (z:=.no [(fd,eN cl 0),(cl,aT.list (cells.map vi))]) 2 gf H6 (R:=Ji fd cl cells) ?_ ?_) λ x v e=>BX (me:=0) e
  ·exact Ca hcz
  clear H6
  intro m z U QW ok
  obtain ⟨k,Cl,p,i,h4,h5,h6,hi,J⟩:=QW
  have H:HS none U ((fd,eN cl p.kk)::(cl,.list (cells.map vi))::(Cl,.list (cq p.cs))::p.N):=ok
  have hln:=J.len
  have hrl:(cq p.cs).length=p.cs.length:=ae ..
  have hli:C5.lookup (aF "list")=some (.type "list"):=rfl
  refine n_ (yW rfl rfl ⟨rfl,rfl,.inl rfl⟩ ⟨rfl,rfl,.inl rfl⟩ (nT (e_ (λ V=>rfl) (vO rfl (zU _) rfl rfl (d5 rfl) (e_ (λ V=>rfl) (qY rfl (GU _ (dW hli)) (Hg (dW hli)) (by decide) rfl (d5 rfl) (e_ (λ V=>rfl) (d6 (v:=.ref Cl) rfl (jW (Cj H (.tail _ (.tail _ (.head _))) (by lia) λ Lc QG H3=>?_))))))))))
  refine e_ (λ V=>rfl) (d6 (v:=vn k) rfl (jW (xn (fI:=118) rfl rfl rfl ⟨_,_,Fl.xt H3 _ (.head _)⟩ λ me ns nx nn hne=>?_)))
  obtain ⟨E,hE⟩:∃E,(Lc,aT.list (cq p.cs))::(fd,eN cl p.kk)::(cl,.list (cells.map vi))::(Cl,.list (cq p.cs))::p.N=E:=⟨_,rfl⟩
  rw [hE] at H3
  have hLc:(Lc,aT.list (cq p.cs))∈E:=hE▸ .head _
  have hCl:(Cl,aT.list (cq p.cs))∈E:=hE▸ .tail _ (.tail _ (.tail _ (.head _)))
  have hC2:Ow p.cs E:=λ e he=>hE▸ .tail _ (.tail _ (.tail _ (.tail _ (J.all e he))))
  have HF:Fl ((QG.put ns (.ns [])).put me (.inst 220 ns)) ((ns,.ns [])::(me,.inst 220 ns)::E):=Fl.perm (HS.fresh (P:=none) (HS.fresh (P:=none) H3 nn) ((AH.get_put_ne hne).trans nx)) (.swap _ _ _)
  clear nx nn hne H3 H
  have hrf:cq p.cs=(p.cs.map (·.2)).map bA:=by unfold cq;exact ah bC rfl
  have hI:j4 ⟨X,11,me,[],λ _=>False,False⟩ 118 [.ref me,.ref Lc,vn k] (.mk me ns [] E) (λ v z=>v=.none/\∃A S,z=.s A S E/\q_ k (p.cs.map (·.1)) [] p.cs.length S):=by
   refine IY (G:=⟨X,11,me,[],λ _=>False,False⟩) (cas:=p.cs.map (·.2)) (cls:=p.cs.map (·.1)) (many:=k) (I:=λ i S=>q_ k ((p.cs.map (·.1)).take i) [] i S) hX rfl (hrf▸hLc) (by rw [ae,ae]) ?_ (by lia) (q_.init k) ?_ λ A S hG=>⟨rfl,A,S,rfl,?_⟩
   ·intro i c hc
    replace hc:=ay▸hc
    refine aM (aQ.mp hc) λ e he QY=>?_;subst QY
    exact cC e.1 (by exact af ay (ah he rfl)) (hC2 e (am he))
   ·intro i S ls SH hG _
    have Wo :=SH
    rw [ay] at SH
    obtain ⟨e,he,rfl⟩:=aQ.mp SH
    have hil:i<p.cs.length:=(ag.mp he).1
    have hr:=J.rng e (am he)
    obtain ⟨k1,k2,k3,k4,k5,k6,k7,k8,k9,XC⟩:=q_.add (N:=k) (by lia) (by lia) hG (ls:=e.1) (by have:=hr.1;lia) hr.2
    have ht:(p.cs.map (·.1)).take (i+1)=(p.cs.map (·.1)).take i++[e.1]:=by rw [ba,Wo];rfl
    exact ⟨k1,k2,k3,k4,k5,k6,k7,k8,λ hp=>by rw [ht];exact (k9 hp).1,λ hp c hc=>by rw [ht];exact (XC hp c hc).1⟩
   ·rw [fK (az _),ae] at hG
    exact hG
  refine (hI.run _ HF).mono λ v τ ⟨z1,ok1,e,A,S,e2,R0⟩=>⟨e,?_⟩
  subst e2
  clear hI HF hrf e
  refine e_ (λ V=>rfl) (ah (qh (me:=0) (me' :=me) rfl) (((iQ 9).e (G:=LG X me) (z:=.s A S E) (Q:=λ v z=>∃Wa ts N2,v=.ref Wa/\z=.s A S (N2++E)/\(Wa,lT ts)∈N2/\qm ts (N2++E)/\ts.map (·.1)=(mT k).filter (pL p.cs))
   ?hw (w5 me hbo hbb) ok1).bd (α:=λ V=>True) λ v z2 U2 Xu q=>?_))
  case hw=>exact I0 rfl h5 (aY hCl) (λ e he=>gg (hC2 e he)) ⟨by lia,λ e he=>⟨by have:=(J.rng e he).1;lia,(J.rng e he).2⟩⟩ λ D ts N h1 h2 h3=>⟨D,ts,N,rfl,rfl,h1 (λ e=>by rw [e] at hln;simp at hln;lia),h2,h3⟩
  obtain ⟨Wa,ts,N2,rfl,rfl,Ys,hI,hws⟩:=q
  refine jW ⟨some (me,A,S),_,Xu,aH rfl,λ a U3 H3=>⟨a,.ref me,.ref Wa,rfl,H3.tup (.head _),(dI (qh (me:=0) (me' :=me) rfl) (ah (uX _ _ _ rfl) ?_))⟩⟩
  have H4:Zs.ok (LG X me) (.s A S (J4 fd cl Cl cells ⟨A,S,p.cs,ts,Wa,p.kk,N2++(Lc,.list (cq p.cs))::p.N,p.cs.length,[]⟩)) U3:=HS.perm (P:=some (me,A,S)) (HS.subl H3 (bM _ _)) (by rw [<-hE];exact nM λ a=>by simp only [dO,eu,eQ];ac_rfl)
  have hIE:∀q∈p.N,q∈N2++(Lc,aT.list (cq p.cs))::p.N:=λ q hq=>ai _ (.tail _ hq)
  have hle:=J.le
  refine ((iQ 99).s (G:=LG X me) (z:=.s A S (J4 fd cl Cl cells ⟨A,S,p.cs,ts,Wa,p.kk,N2++(Lc,.list (cq p.cs))::p.N,p.cs.length,[]⟩)) (Q:=λ f V V=>zt f=.bool true) ?_ (w5 me hbo hbb) H4).bd λ f m z U k q=>by cases f<;>exact q
  refine B_ hX hcz h4 h5 (p:=⟨A,S,p.cs,ts,Wa,p.kk,N2++(Lc,.list (cq p.cs))::p.N,p.cs.length,[]⟩) ⟨R0,λ e he=>hIE _ (J.all e he),ak _ Ys,λ e he=>?_,hws,J.rng,az _,by show p.kk<=10*p.cs.length+200;lia⟩ (by show p.cs.length<=20;lia)
  have:=hI e he
  rw [<-hE] at this
  refine (aw.mp this).elim (λ h=>ak _ h) λ h=>?_
  cases h with
  | tail _ h=>cases h with
   | tail _ h=>cases h with
    | tail _ h=>cases h with
     | tail _ h=>exact hIE _ h
end
section
theorem Io(p:fB):oq (KK p) cX "law"=some (some (.ref 276)):=by kernel_rfl
theorem Pr{w:nD}{q:Program}{l mean mg mb o d}:Dr ⟨PySem.Challenge.rw_nz0391_02.row.prog,w,q,l,mean,mg,mb,o,d⟩:=by
 refine ⟨?_,(by decide:(PySem.Challenge.rw_nz0391_02.row.prog.main.scope.names.lookup ("super":Str)).isSome=false)⟩
 show qG (KK w.params) 118=some (aF "/claim/cut.py")
 have:∀p,qG (KK p) 118=some (aF "/claim/cut.py"):=λ p=>by kernel_rfl
 exact this _
theorem wZ:∀{vs:List Value} {xs:List Int},IntsAre vs xs->vs.map er=xs.map vi:=by
 intro vs xs h
 induction h with
 | nil=>rfl
 | cons _ _ _ ih=>rw [bc,bc,ih];rfl
set_option tactic.hygienic true in
theorem MR:PySem.Challenge.rw_nz0391_02.Holds:=by
 refine holds_law (by kernel_rfl) λ said=>?_
 refine PySem.W.holds_open (q:=vw) (loose:=[]) (Xt:=λ s=>xlAt vw [] s&&recOk (JT PySem.Challenge.rw_nz0391_02.row.toRowW) s) (XP:=PySem.W.XL vw []) (Yf:=Pq Jj) (Ya:=Pp Jj) (YP:=Hook.says Jj) (N:=3872) hl (Hook.of Jj) (Hook.keeps Jj) (λ s e=>PySem.W.xl_of s (bg.mp e).1) Pn (by rfl) (by rfl) (by rfl) (λ s e=>PySem.W.recFacts_of (bg.mp e).2) (by rfl) said (by decide+kernel) ⟨rfl,rfl,rfl,rfl,rfl,by decide+kernel⟩ ?hw ?hc
 case hw=>w_witness2
 intro w s0 s₁ mg mb G Y fa o pm cd Sd dV kV ho hd Rz hD W5 hg args Y5 as Wn Wq XT T_ hlo
 have KX:=kIn_of (K:=KH) Y
 refine Ground.open G ?_
 intro T B D TE TW
 clear D
 have hmg' :mg (aF "law")=some (.ref fa):=W5
 have h2:=(JO KX T.g (Io w.params)).symm.trans hmg'
 obtain rfl:fa=276:=by cases h2;rfl
 clear hD Rz hd ho W5 hmg' h2
 wrow_args Wn Wq XT T_ hlo
 refine enter_call ?_
 refine f_ ?_ (λ V V g=>GoodW.toG g)
 rename_i Xo _ _ _ _ _ _ _ WN Xp _ Yx _ _ _ YE _ SP _
 refine f_ (B9 (X:=⟨PySem.Challenge.rw_nz0391_02.row.prog,w,vw,looseW vw [],ExcName.means s0.heap,mg,mb,s₁.os,s₁.drawn⟩) Pr (xs:=Xo) (sa:=WN) (by omega) s₁ [.ref WN] ⟨hg,rfl,rfl⟩ ⟨KX,T⟩ rfl ⟨Xp,Yx,wZ YE⟩) λ r s' Q4=>?_
 obtain ⟨v,e1,e2,e3,e4⟩:=Q4
 subst e1
 rw [iu e2]
 exact ⟨.inl ⟨_,.bool true,[],rfl,λ V=>rfl,.bool _,postW_of (by wrow_shape) (by wtm_val) (by str_meet;first | done | w_fin),unshared_nil⟩,e3,e4.os,e4.gens⟩
end
end Mine
theorem PySem.Challenge.cw_nz0391_02_holds : PySem.Challenge.rw_nz0391_02.Holds :=
  Mine.MR
