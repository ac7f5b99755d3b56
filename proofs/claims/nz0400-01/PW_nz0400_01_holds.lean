import PyProof.Rows.All
import Wide.All
import OpenK.AllK
import Wide.FinOn
import PyProof.TableCode
import PySem.Challenge.RW_nz0400_01
set_option Elab.async false
set_option maxRecDepth 100000
set_option maxHeartbeats 4000000
set_option linter.all false
set_option tactic.hygienic false
set_option genCtorIdx false
set_option compiler.extract_closed false
set_option backward.match.sparseCases false
set_option genSizeOf false
set_option genInjectivity false
set_option bootstrap.genMatcherCode false
open And renaming intro->AG
open Array renaming extract_empty_of_stop_le_start->aVE,extract_size->aVH,forIn_toList->aV2,getElem?_eq_getElem->lJ,getElem?_eq_none->aWB,getElem?_eq_some_iff->Cc,getElem?_setIfInBounds_ne->aVY,getElem?_toList->mZ,getElem_mem->aR4,length_toList->pL,mem_toList_iff->yV,perm_iff_toList_perm->aVI,replicate->aV0,size_append->Qu,size_map->aSD,size_push->aVF,toArray_toList->aUB,toList_append->xC,toList_extract->gf,toList_push->Rt,toList_reverse->Rq,toList_setIfInBounds->aR7
open Bool renaming and_eq_true->oM,and_eq_true_iff->sK,and_false->Qm,and_true->aPY,beq_eq_decide_eq->aS2,casesOn->eT,eq_false_iff->Ds,eq_iff_iff->Dp,false->aI,false_eq_true->Hv,false_ne_true->cC,noConfusion->iE,not->oK,not_eq_false'->ej,not_eq_true->aRC,not_eq_true'->mL,not_true->aRA,or_eq_false_iff->QP,or_eq_true->BO,or_eq_true_iff->AI,or_false->aVA,or_true->Qq,true->aB
open Classical renaming byContradiction->fc,choose->aUT,choose_spec->aUU
open Decidable renaming byContradiction->aa,decide->aQ
open False renaming elim->iI
open ForIn renaming forIn->jD
open ForInStep renaming yield->ET
open Iff renaming rfl->au
open Inhabited renaming default->qX
open Int renaming add_comm->Qt,add_sub_cancel->ew,le_of_eq->aTO,le_of_lt->bb,le_trans->Qs,lt_of_le_of_lt->Qo,lt_of_lt_of_le->aTP,lt_trans->be,natAbs->aRU,natCast_nonneg->uT,natCast_succ_pos->aU2,neg_le_neg->aTA,not_lt->EK,ofNat->cw,ofNat_inj->aQF,ofNat_le->Do,ofNat_lt->tK,sub_nonpos_of_le->aTY,toNat_natCast->Ll,toNat_of_nonneg->aS9,toNat_sub->aQE,zero_add->Ca
open LawfulBEq renaming eq_of_beq->jX
open List renaming Sublist->LH,all_append->bq,all_cons->Dn,all_eq_true->cX,all_map->qZ,any_eq_true->Ho,append_assoc->dK,append_nil->fS,append_of_mem->aU6,append_toArray->aTD,casesOn->bM,cons_lt_cons_iff->AH,cons_ne_nil->Hu,countP_append->aVQ,countP_cons->aVR,countP_mono_left->aVP,drop->aQ7,drop_drop->ZQ,drop_eq_getElem_cons->aQT,drop_eq_nil_iff->QG,drop_nil->ZZ,eq_nil_of_length_eq_zero->Dz,eraseDups_cons->aUJ,ext_getElem->aRV,ext_getElem?->aVN,extract_eq_take_drop->gg,filterMap_cons->LC,filterMap_cons_some->aQ4,filterMap_map->Lg,filter_append->aRO,filter_congr->aRS,filter_cons->LD,filter_eq_nil_iff->eh,filter_eq_self->aUK,filter_filter->aRR,find?_cons->aQC,find?_eq_none->aTL,find?_some->aRP,findIdx?_cons->KQ,findIdx?_eq_none_iff->aP3,findIdx?_eq_some_iff_getElem->aP4,flatMap->aU9,flatMap_append->LF,flatMap_cons->EW,flatMap_singleton->QT,forIn_cons->Lr,forIn_nil->aQR,forall_mem_cons->BV,forall_mem_map->nA,getElem?_append_left->rC,getElem?_append_right->uR,getElem?_drop->QD,getElem?_eq_getElem->iA,getElem?_eq_none->uW,getElem?_eq_none_iff->cq,getElem?_eq_some_iff->iU,getElem?_map->jW,getElem?_set_ne->KR,getElem?_set_self->aSX,getElem?_take->aUM,getElem?_take_of_lt->aVO,getElem?_toArray->wV,getElem_map->Rc,getElem_mem->EY,getElem_range->QY,isEmpty_iff->LA,isEmpty_map->aU8,le_antisymm->aUY,length->EH,length_append->cM,length_cons->AC,length_drop->Hp,length_eq_one_iff->dh,length_eraseIdx_le->aTJ,length_eraseIdx_of_lt->aRT,length_erase_of_mem->aRG,length_filter_le->lA,length_map->bP,length_modify->aP9,length_nil->aPV,length_pos_of_mem->aRI,length_range->pK,length_reverse->KY,length_set->Hl,length_take_le->aVB,length_take_le'->KW,length_take_of_le->gh,length_zip->aRD,length_zipIdx->fh,lookup_cons->KP,lt_irrefl->fg,lt_trans->ff,map->dj,map_append->gO,map_cons->sH,map_inj_left->ZY,map_inj_right->aUV,map_map->kL,map_reverse->aU7,map_take->aRM,mem_append->fU,mem_append_left->rG,mem_append_right->kM,mem_cons->dA,mem_cons_of_mem->aUR,mem_filter->jA,mem_filterMap->aUW,mem_flatMap->jZ,mem_iff_getElem?->wT,mem_map->gJ,mem_map_of_mem->LG,mem_of_elem_eq_true->aRB,mem_of_find?_eq_some->QW,mem_of_getElem?->fT,mem_of_mem_tail->aRF,mem_of_mem_take->QU,mem_range->qD,mem_range'_1->aT7,mem_reverse->Lz,mem_singleton->dU,modify_nil->az,nil_append->aUQ,nil_lt_cons->aUX,noConfusion->aSP,nodup_append->DC,nodup_cons->EX,not_lt->fe,not_lt_nil->fb,not_mem_nil->sJ,of_mem_zip->QS,pairwise_append->pZ,pairwise_cons->EV,pairwise_flatMap->aRJ,pairwise_iff_getElem->Dj,pairwise_lt_range->aRN,pairwise_map->AE,pairwise_reverse->aR6,pairwise_singleton->Dm,perm_append_comm->aVD,perm_append_singleton->aVZ,push_toArray->aQA,range->eW,range'->QK,range_succ_eq_map->aPW,rel_of_pairwise_cons->aR2,replicate->KL,reverse_append->LK,reverse_cons->Di,reverse_perm->aR5,reverse_reverse->Lk,set_append_right->QQ,size_toArray->Ht,sublist_append_left->aU5,sublist_cons_iff->aU4,sum_cons->aRE,takeWhile_cons->QV,take_add_one->tP,take_append_drop->EG,take_length->oO,take_nil->aSS,take_of_length_le->KZ,take_zero->fm,zipIdx_append->aU1,zip_cons_cons->aQ6
open List.Pairwise renaming filterMap->aW6,map->aW2,nil->aXE
open List.Perm renaming append_left->aR1,map->aWD
open List.Sublist renaming refl->aW1
open List.cons renaming inj->BM,injEq->aS4
open Min renaming min->tI
open Nat renaming add_assoc->kX,add_comm->kY,add_le_add->iR,add_le_add_left->fG,add_le_add_right->Dy,add_le_of_le_sub'->aVG,add_lt_add_left->rF,add_lt_add_of_le_of_lt->aVS,add_lt_add_right->aR9,add_lt_of_lt_sub->aRK,add_lt_of_lt_sub'->fx,add_right_comm->BY,add_sub_assoc->aR8,add_sub_cancel'->oL,add_sub_cancel_left->wY,beq->bZ,beq_refl->aPU,ble->jV,ble_eq_true_of_le->aUO,blt->mX,casesOn->fO,div_lt_of_lt_mul->aVK,eq_of_beq_eq_true->iQ,eq_zero_of_not_pos->Ru,exists_eq_add_of_le->Ly,exists_eq_add_one_of_ne_zero->Fb,le_add_left->wZ,le_add_right->dI,le_antisymm->qC,le_div_iff_mul_le->aVL,le_max_right->fw,le_min->aRZ,le_mul_of_pos_left->aVC,le_of_add_le_add_left->er,le_of_ble_eq_true->bV,le_of_eq->bW,le_of_lt->dR,le_of_lt_succ->gW,le_of_not_lt->Dq,le_of_sub_eq_zero->Rm,le_of_succ_le->EU,le_of_succ_le_succ->BZ,le_pred_of_lt->aRY,le_refl->bT,le_sub_of_add_le->aVJ,le_sub_one_of_lt->aRQ,le_succ->jC,le_succ_of_le->uS,le_trans->aR,le_zero->dz,lt_add_of_pos_right->QC,lt_irrefl->rH,lt_of_add_lt_add_left->QZ,lt_of_le_of_lt->fZ,lt_of_le_of_ne->sL,lt_of_lt_of_eq->uX,lt_of_lt_of_le->cO,lt_of_not_le->EZ,lt_of_succ_lt->oN,lt_of_succ_lt_succ->gj,lt_or_eq_of_le->HC,lt_or_ge->Dk,lt_or_gt_of_ne->aSW,lt_succ_of_le->BX,lt_succ_of_lt->zG,lt_succ_self->jY,lt_trans->Hy,lt_trichotomy->gi,max_eq_right->fy,min_eq_left->fj,min_eq_right->aRL,min_le_left->QR,min_le_right->aUN,min_self->aSZ,mod_lt->QX,mul_le_mul->LE,mul_le_mul_left->DA,mul_le_mul_right->BQ,ne_of_beq_eq_false->DB,ne_of_gt->jQ,ne_of_lt->lU,noConfusion->aSQ,not_le->dp,not_le_of_gt->Rs,not_lt->eI,not_lt_zero->uP,not_succ_le_self->aQ3,not_succ_le_zero->aQ8,one_pos->tO,pos_of_ne_zero->HD,pow_le_pow_right->aU0,pow_succ->aUZ,pred_le_pred->aRX,strongRecOn->aUS,sub_add_cancel->LL,sub_eq_zero_of_le->bj,sub_le->pI,sub_le_sub_left->Rj,sub_lt_sub_right->aVM,sub_one_lt_of_lt->HB,sub_pos_of_lt->BP,sub_self->yT,succ->EI,succ_add_eq_add_succ->KM,succ_le_of_lt->fq,succ_le_succ->gZ,succ_lt_succ->fk,succ_lt_succ_iff->aS0,succ_mul->aQN,succ_ne_self->aQM,succ_ne_zero->Ls,succ_pos->gM,succ_pred_eq_of_pos->aRH,succ_sub->aR0,two_pos->Rp,zero_add->jH,zero_le->eO,zero_lt_succ->aT8
open Nat.succ renaming inj->nP
open Ne renaming symm->tQ
open Option renaming bind_some->aU3,casesOn->jP,getD->KT,isNone_iff_eq_none->ed,isSome->Qg,isSome_iff_exists->wR,map->hV,map_eq_some_iff->EF,noConfusion->aSO,none->aC,some->aA
open Option.some renaming inj->aV
open PUnit renaming unit->ei
open Prod renaming ext->Qi,fst->Lh
open Prod.mk renaming inj->dX
open Pure renaming pure->bB
open PyProof.Rows renaming Attribute_any_->aW0,Keyed->cJ,SortSt->cZ,arrOf->fL,binarySort'->aRW,callWith_type->aWY,elem'->nB,entry_list_iadd'->aSG,entry_proto_collect'->aSF,failedOf->Cb,get?_update_seq->gp,getElem?_mirror_all->aSA,getItem_tuple->aWO,kindOf->kA,len_tuple->aWN,listUpdate_at->gn,ltAt'->LI,mergeAt'->Rh,pairsOf->DD,pendingOf->gA,reverseSlice'->Hz,seqEpoch_at->aSB,seqObj->jR,setPending->HA,slot_tuple_getitem->bf,sortedHeap->gk,truthy_int->aWL,truthy_tuple->aWM,tupleItemsOf_->aP1,wpS_bind->mM,wpS_get->Cd,wpS_modify->Rr,wpS_mono->LJ,wpS_pure->ft
open PyProof.Rows.F renaming entry_set_update_loop->aV5,plain_set_update_loop->aSL
open PyProof.Rows.SortSt renaming mk'->aR3
open PySem renaming Addr->aM,Around->bN,CmpOp->qW,Code->AB,Comprehension->BJ,Const->EE,DictEntry->fB,Env->dH,Expr->aT,Fin->Hm,Flow->tH,FuncBody->ZS,FuncData->uQ,GenState->ZX,Heap->dW,IsPair->EP,IsPart->Dr,ItemsOf->Ry,NameKind->iL,Obj->dE,Operator->KJ,OsState->ZV,Pairs->aS3,Pos->cY,Program->BK,Result->pJ,Scope->wQ,Sem->eC,SetFound->Ce,SetTable->iV,Shared->aF,Stmt->kW,Str->aX,Value->aD,World->aW,ZipApart->QB,again->tM,argBest->QM,argsOk->gw,arm_eval_Call_Name'->aQU,assign->tL,assignEach->Lj,assignInOrder->cz,backTo->uV,behindInMarks->aQ1,binaryOp->bn,bootBuiltins->aPR,builtinLookup_eq_fast->ds,builtinsNs->Df,cLine->dO,cStatics->ZR,call->fK,callWith->dx,call_meets->aQJ,cameBackBy->aQW,cellsFrom->Hx,closureFor->aQY,codeAny->lI,codeAny_builtin->zJ,codeAny_mono->RA,codeAny_of_tree->ER,collect->Fc,compTurn->Hw,compareOp->yW,contains->ax,denote->Qd,dictGet->Qp,dictSet->ba,entryFor->dv,entryFor_of_tree->aUC,eval->dJ,evalEach->Hq,execs->Lu,field->Hs,foldedSetIterable->aQV,forTurn->db,getItem->KU,getMethod->bu,getMethod_builtin->QN,getattributeRaised->aUD,hashByValue->aSJ,holding->rI,importedModules->Qf,intItems->Du,isInstance->ak,isSubtype->ao,isSubtype_stop->aQO,isSubtype_type->RE,isTrue->zE,letOwnedTupleGo->Lp,mainGlobals->qY,markedBehindIn_of_false->aUH,markedEach->aQ2,mem_of_lookup->EM,newExc->bx,newFunctionEnv->QI,newList->QJ,noteFrame->Lx,notedBy->QH,numAt->Dv,ofAClassStatement->LO,pickOrder->LU,plainId_quiet->Dx,pushCells->BW,pushCells_keeps->aQX,putIn->aQL,pyIter->rE,pyNext->jI,raiseNew->bz,rawInt->lV,recursionLimit->Li,richCompare->aP0,rule->yU,searchCouldBeSeen->aSK,seqItems?->cj,setNext->Ff,setSearchFrom->RB,setState->LP,sizeLine->rD,sizeLine_eq->av,slot_dict_contains->aP6,slot_dict_getitem->aP8,slot_dict_setitem->aS7,slot_list_getitem->aTB,slot_listiter_next->aTT,spliced->Qx,standAt->EQ,starEach->sI,strKind->Qk,strKind_is->aP2,sysModules->aP5,theTreesLotGoes->QE,treeTable->iT,truthy->Qr,typeLookup->aQD,typeLookup_type->dq,typeOf->QL,unsupported->zK,wpAny->aL,wpAny_Constant_int->aQG,wpAny_Constant_str->aTQ,wpAny_UnaryOp->aQH,wpAny_alloc->aQZ,wpAny_askSetting->Qv,wpAny_attempt->BU,wpAny_bind->aK,wpAny_call->QO,wpAny_callSpecial?_slot->wW,wpAny_call_entry->nN,wpAny_comprehension_free->aUA,wpAny_dictEntries->aw,wpAny_dictEpoch->aQP,wpAny_execs_cons->aT6,wpAny_execs_nil->dc,wpAny_field->yX,wpAny_fieldsOf->Lm,wpAny_forIn_list->aq,wpAny_holding->fV,wpAny_isInstance->EO,wpAny_isOneOf_keyiter->aVV,wpAny_isTrue_BoolOp->aUI,wpAny_ite_split->xE,wpAny_items_cons->Qy,wpAny_items_nil->bv,wpAny_list_append_plain->aTE,wpAny_load->Lq,wpAny_loadName_cell->aTM,wpAny_loadName_free->aTN,wpAny_mono->dP,wpAny_newList->aSC,wpAny_newObj_type->yY,wpAny_notOrdered_dict->aQB,wpAny_noted->QF,wpAny_of_eq->cf,wpAny_onRaise->cy,wpAny_pure->bA,wpAny_pyIter_keyiter->aTZ,wpAny_pyIter_list->aQQ,wpAny_pyIter_slot->aSE,wpAny_pyIter_tuple->cu,wpAny_pyIter_zip->aT4,wpAny_release->da,wpAny_rule->BN,wpAny_runValue->gq,wpAny_seqItems->zC,wpAny_sequenceKey->aP7,wpAny_setEntries_of->RF,wpAny_setEpoch_of->aWA,wpAny_setField->BR,wpAny_setField_rec->cx,wpAny_setState_of->Cf,wpAny_specialOf->ay,wpAny_standAt->mY,wpAny_storeSet_of->aV4,wpAny_truthy_bool->Hn,wpAny_typeNameOfWhole_keyiter->cm,wpAny_typeOf->AD,wpAny_updateSeq->aQI,wpAny_updateSeq_pair->aT1,wpAt->aUP,wpAt_of_wpAny->aQ9
open PySem.Around renaming under_plainId->Dw
open PySem.Builtin.Dict renaming dictSlotNone->aW3,missed->aWJ,notOrdered->aWK,pairItems->aUE,pendingKey?->aWI,selfAndRest->aWZ,showsAll->aVU,updateFrom->aUF
open PySem.Builtin.Frozenset renaming addrOf->aXA,isAnySet->aV7,newClass->aW8,sizeOf->aXB,slot0->aW9,updateFrom->aSM
open PySem.Builtin.List renaming listExtendWith->EL,listFitsIndex->aTH,listItems->aTF,listLengthHint->aSN,listSameRef->aXD,listTooLong->aWS,listTouch->aXC
open PySem.Builtin.Range renaming rangeSize->aWX,small->aWW
open PySem.Builtin.Slice renaming sliceAdjust->bm,slicePartIndex->aWP,slicePlaces->bh
open PySem.Builtin.SmallTypes renaming nextOf->ck,ownedTupleHandOut->aT2,ownedTupleIsFree->aT0
open PySem.Builtin.Tuple renaming tupleCompareSizes->aWH,tupleExact->aWQ,tupleItemsOf->aPZ
open PySem.Calls renaming callWith_builtin->aT5,evalArgs_plain->dg
open PySem.Challenge renaming pw_nz0400_01->sF,rw_nz0400_01->HF
open PySem.Code renaming builtin->aUG
open PySem.Data renaming casesOn->ee
open PySem.Expr renaming casesOn->dy
open PySem.F renaming args_dict_keyiterator_next_1->aTX,called_set->Fe,entry_dict_keyiterator_next->aTW,plainAttrs_list->dw,plain_extend_loop->aWC,plain_list_iadd->Rz,plain_proto_collect->aVW,plain_set_new->aV6,slot_dict_get->aS6,slot_dict_iter->aVT,slot_dict_keyiterator_next->QA,slot_list_extend->aTG,slot_list_getattribute->aQ0,slot_list_pop->aTI,slot_list_remove->aTK,slot_range_iterator_next->aTV,slot_set_iter->aV9,slot_tuple_iterator_next->aTU,slot_tuple_lt->aS1,slot_zip_next->aT3
open PySem.Heap renaming ExtBut->EN,SameBut->lT,get?_push_of_some->fC,get?_push_size->kZ,get?_update_other->Dt,get?_update_self->wX,lt_size->iF,size_after_update->LR,size_push->lH,size_update->Qz
open PySem.Heap.IsSliceOf renaming new->aWR
open PySem.Heap.Ns renaming new->aT9
open PySem.Heap.SameBut renaming update->qA
open PySem.MeetsSeq renaming list_pop_at->aWT,list_remove->aWU
open PySem.NameKind renaming cell->di,free->tN
open PySem.Obj renaming cls_mapFields->aTS,data_mapFields->cg,isFreed_of_fields->aTR,mapFields->Hr,mapSeq->yZ,putName->bt,putSet->gv
open PySem.P renaming neg_int->aTC
open PySem.PyData renaming int->RG,keyHash->Hj,list->aWE
open PySem.SeqAt renaming EqAt->Qn,RcAt->aPX,RcNeAt->aSY
open PySem.SeqAt.EqAt renaming int_str->aWF,str_int->aWG
open PySem.SeqRoads2.EqGives renaming str->aWV
open PySem.SetTable renaming Met->aV3,Probe->AJ,below->xD,bits->gr,grown->HE,has->aVX,insertAt->rJ,laid->aV1,layClean->aSI,leap->LN,runEnd->qF,sizeAbove->zL,turns->Fd
open PySem.SetTable.Probe renaming dummy->aW5
open PySem.SetTable.Slot renaming live->aW4
open PySem.SetTable.Slot.live renaming inj->aW7
open PySem.SetTable.below renaming go->aSH
open PySem.SetTable.layClean renaming free->gu
open PySem.SetTable.probe renaming go->LQ
open PySem.Shared renaming TypeIs->bw,heap->aQS
open PySem.Stmt renaming casesOn->aUL
open PySem.Str renaming empty->yQ,mk->bp,ofString->cD
open PySem.Value renaming bool->KV,builtin->aS5,casesOn->aQ5,isInt->aST,isInt_shape->Qj,isStrOf_shape->aPT,none->AF,ref->tJ,type->LM
open PySem.Value.ref renaming inj->Ql
open PySem.W renaming Frag->sG,SharedT->tG,absHeap->Dh,any_some->uU,boot_drawn->Qe,clsIn->Qc,dictOf->jB,emptyDict->Qw,fencedOpening->KN,findIn->yR,instObj->EJ,keepIn->Dg,keq_eq->aS8,listOf->Hk,namesBound->aPS,nsIn->BL,ownOf->aQK,piecesOf->Hh,segRunT->KO,stepOk->ZU,through->ZT,topFrame->Hg,topRun->Qh,topStub->ZW
open PySem.W.SharedT renaming abs->aSR
open PySem.pickOrder renaming go->aV8
open Sum.inl renaming inj->aSU
open Sum.inr renaming inj->aSV
open PySem
namespace Internal
noncomputable section
local macro_rules | `(tactic| rfl') => `(tactic| kernel_rfl)
theorem aN{a:Sort u}{b:Sort v}{c d:a}(f:a->b)(h:c=d):f c=f d:=congrArg f h
theorem aZ{a b:Prop}(h:a)(n:¬a):b:=absurd h n
theorem bH{c:Prop}{h:Decidable c}(hc:¬c){a:Sort u}{t e:a}:ite c t e=e:=if_neg hc
theorem bO{c:Prop}{h:Decidable c}(hc:c){a:Sort u}{t e:a}:ite c t e=t:=if_pos hc
theorem bQ{p:Prop}[inst:Decidable p]:decide p=true->p:=of_decide_eq_true
theorem cU{p:Prop}[inst:Decidable p]:p->decide p=true:=decide_eq_true
theorem fM{p:Prop}[inst:Decidable p]:¬p->decide p=false:=decide_eq_false
theorem lW{a:Type}[BEq a][ReflBEq a](x:a):(x==x)=true:=beq_self_eq_true x
theorem pM{p:Prop}[inst:Decidable p]:decide p=false->¬p:=of_decide_eq_false
theorem iZ{P:Prop}(h:aI=aB):P:=iE h
theorem AP{P:Prop}(h:aB=aI):P:=iE h
theorem HT{b:Type}{a:b}{P:Prop}(h:aC=aA a):P:=aSO rfl<|heq_of_eq h
theorem II{b:Type}{a:b}{P:Prop}(h:aA a=aC):P:=aSO rfl<|heq_of_eq h
theorem Fh{b:Type}{a:b}{l:List b}{P:Prop}(h:[]=a::l):P:=aSP rfl<|heq_of_eq h
theorem vR{b:Type}{a:b}{l:List b}{P:Prop}(h:a::l=[]):P:=aSP rfl<|heq_of_eq h
theorem vU{n:Nat}{P:Prop}(h:0=n+1):P:=aSQ h
theorem tY{n:Nat}{P:Prop}(h:n+1=0):P:=aSQ h
@[elab_as_elim] theorem aE{c:Type}{a b:c}{motive:c->Prop}(h:a=b)(e:motive b):motive a:=h▸e
@[elab_as_elim] theorem eJ{c:Type}{a b:c}{motive:c->Prop}(h:a=b)(e:motive a):motive b:=h▸e
noncomputable def Ui:List Nat->Nat->Nat
 |[],acc=>acc
 |c::r,acc=>if c<128 then Ui r (acc*128+c)else 0
def key(s:aX):Nat:=Ui s.cps.toList 1
noncomputable def Xb:Nat->Nat->List Nat->List Nat
 |0,_,acc=>acc
 |n+1,k,acc=>if k<=1 then acc else Xb n (k/128) (k % 128::acc)
def kP(k:Nat):aX:=⟨(Xb 100 k []).toArray⟩
def fX(a:aX):Bool:=a==kP (key a)
def uY(a:aX):Bool:=fX a&& !(bZ (key a) 22320)
set_option genCtorIdx true in
inductive V where
 |h9|e8 (b:Bool)|a5 (i:Int)|d9 (s:aX)
 |a8 (l:List V)|a7 (l:List V)|b7 (l:List (V×V))
 |a9 (p:Nat)
 deriving Inhabited
inductive O where
 |a7 (l:List V)|b7 (l:List (V×V))|g9 (c:Nat) (fs:List (Nat×V))
noncomputable abbrev aH:=List O
noncomputable abbrev Lc:=List<|Option V
noncomputable def cF:Nat:=1000000
noncomputable def qI(f:V->V->Option Bool):List V->List V->Option Bool
 |[],l=>aA l.isEmpty
 |a::r,m=>match m with
  |[]=>aA aI
  |b::t=>(f a b).bind λx=>(qI f r t).map λy=>x&&y
def lD:Nat->V->V->Option Bool
 |0,_,_=>aC
 |n+1,a,b=>match a with
  | .h9=>(match b with| .h9=>aA aB| .d9 _=>aA aI| .a8 _=>aA aI|_=>aC)
  | .e8 x=>(match b with| .e8 y=>aA (x==y)|_=>aC)
  | .a5 x=>(match b with| .a5 y=>aA (x==y)|_=>aC)
  | .d9 x=>(match b with| .d9 y=>aA (x==y)| .h9=>aA aI| .a8 _=>aA aI|_=>aC)
  | .a8 l=>(match b with| .a8 m=>qI (lD n) l m| .h9=>aA aI| .d9 _=>aA aI|_=>aC)
  | .a7 l=>(match b with| .a7 m=>if l.length==m.length then qI (lD n) l m else aA aI|_=>aC)
  |_=>aC
def jS(a b:V):Option Bool:=lD 40 a b
noncomputable def En:V->Bool
 | .a5 _=>aB
 | .d9 _=>aB
 |_=>aI
noncomputable def iC:V->Bool
 | .d9 _=>aB
 |_=>aI
def gP:V->Bool
 | .a8 l=>l.all En
 |_=>aI
def dY(k:V)(l:List (V×V)):Bool:=(iC k&&l.all λp=>iC p.1)||(gP k&&l.all λp=>gP p.1)
def cN(a b:V):Bool:=(jS a b).getD aI
def dF(k:V):List (V×V)->Option V
 |[]=>aC
 |(a,x)::r=>if cN a k then aA x else dF k r
def gV(k x:V):List (V×V)->List (V×V)
 |[]=>[(k,x)]
 |(a,y)::r=>if cN a k then(a,x)::r else(a,y)::gV k x r
def AZ(b:List (V×V)):List (V×V)->Option Bool
 |[]=>aA aB
 |(k,x)::r=>match dF k b with
  |none=>aA aI
  |some y=>(jS x y).bind λp=>(AZ b r).map λq=>p&&q
noncomputable def yy(a b:aX):Bool:=aQ<|a.cps.toList<b.cps.toList
def DR:V->V->Option Bool
 | .a5 a,b=>(match b with| .a5 b=>aA (aQ<|a<b)|_=>aC)
 | .d9 a,b=>(match b with| .d9 b=>aA (yy a b)|_=>aC)
 |_,_=>aC
def DF:List V->List V->Option Bool
 |[],m=>aA !m.isEmpty
 |a::r,m=>match m with
  |[]=>aA aI
  |b::t=>(lD 1 a b).bind λx=>match x with
   |false=>DR a b
   |true=>DF r t
def Dc(a b:V):Option Bool:=match a with
 | .a8 l=>(match b with| .a8 m=>DF l m|_=>aC)
 |a=>DR a b
noncomputable def Eb:V->Bool| .a5 _=>aB|_=>aI
noncomputable def CB:V->Bool| .d9 _=>aB|_=>aI
noncomputable def xF(p:V->Bool):V->Bool
 | .a8 l=> !l.isEmpty&&l.all p
 |_=>aI
def Bj(a b:V):Bool:=(Dc a b).getD aI
def uC(x:V):List V->List V
 |[]=>[x]
 |y::r=>if Bj x y then x::y::r else y::uC x r
def nY:List V->List V
 |[]=>[]
 |x::r=>uC x<|nY r
def jL(l:List V):Bool:=l.all (xF Eb)||l.all (xF CB)
def tV(x:V):List V->Option Bool
 |[]=>aA aI
 |y::r=>(jS y x).bind λa=>(tV x r).map λb=>a||b
def mV(acc:List V):List V->List V
 |[]=>acc
 |x::r=>if acc.any (λy=>cN y x)then mV acc r else mV (acc++[x]) r
noncomputable def eK(x:V)(a:aH):Option V:=match x with
 | .a9 p=>(match a[p]? with
  |some (.a7 l)=>aA<|.a7 l
  |some (.b7 l)=>aA<|.b7 l
  |some (.g9 _ _)=>aA<|.a9 p
  |none=>aC)
 |x=>aA x
noncomputable def jn:V->Option Bool
 | .h9=>aA aI
 | .e8 b=>aA b
 | .a5 i=>aA<|i !=0
 | .d9 s=>aA<|s.cps.size !=0
 | .a8 l=>aA !l.isEmpty
 | .a7 l=>aA !l.isEmpty
 |_=>aC
noncomputable def gI(b:Bool)(v:V):Option V:=match b with
 |true=>aA v
 |false=>aC
def gE(l:List (V×V)):Bool:=l.all λp=>iC p.1
noncomputable def nT(i:Int):Bool:=aQ (-(10^18)<i)&&aQ (i<10^18)
def Km(o:KJ)(a b:V):Option V:=match o with
 | .Add=>(match a with
  | .a5 a=>(match b with| .a5 b=>aA (.a5 (a+b))|_=>aC)
  | .d9 a=>(match b with| .d9 b=>gI (aQ<|(a++b).length<=cF) (.d9 (a++b))|_=>aC)
  | .a8 a=>(match b with| .a8 b=>gI (aQ<|(a++b).length<=cF) (.a8 (a++b))|_=>aC)
  | .a7 a=>(match b with| .a7 b=>gI (aQ<|(a++b).length<=cF) (.a7 (a++b))|_=>aC)
  |_=>aC)
 | .Sub=>(match a with| .a5 a=>(match b with| .a5 b=>aA (.a5 (a-b))|_=>aC)|_=>aC)
 | .Mult=>(match a with| .a5 a=>(match b with| .a5 b=>gI (nT a&&nT b) (.a5 (a*b))|_=>aC)|_=>aC)
 | .Mod=>(match a with| .a5 a=>(match b with| .a5 b=>gI (b !=0) (.a5 (Int.fmod a b))|_=>aC)|_=>aC)
 |_=>aC
def Ii(a b:V):Option Bool:=match a with
 | .b7 l=>(match b with
  | .b7 m=>(match gE l&&gE m with
   |true=>if l.length==m.length then AZ m l else aA aI
   |false=>aC)
  |_=>aC)
 |a=>jS a b
def uZ(x y:V):Option Bool:=match y with
 | .a8 l=>tV x l
 | .a7 l=>tV x l
 | .b7 l=>(match dY x l with|true=>aA (dF x l).isSome|false=>aC)
 |_=>aC
noncomputable def HW(f:Int->Int->Bool)(a b:V):Option Bool:=match a with
 | .a5 a=>(match b with| .a5 b=>aA (f a b)|_=>aC)
 |_=>aC
noncomputable def GD(a b:V):Option Bool:=match b with
 | .h9=>aA (match a with| .h9=>aB|_=>aI)
 |_=>aC
def Mo(o:qW)(a b:V):Option Bool:=match o with
 | .Eq=>Ii a b
 | .NotEq=>(jS a b).map oK
 | .Lt=>Dc a b
 | .LtE=>HW (λa b=>aQ<|a<=b) a b
 | .Gt=>HW (λa b=>aQ<|a>b) a b
 | .GtE=>HW (λa b=>aQ<|a>=b) a b
 | .Is=>GD a b
 | .IsNot=>(GD a b).map oK
 | .In=>uZ a b
 | .NotIn=>(uZ a b).map oK
def nL(o:KJ)(x y:V)(c:aH):Option V:=(eK x c).bind λa=>(eK y c).bind λb=>Km o a b
def dZ(o:qW)(x y:V)(c:aH):Option Bool:=(eK x c).bind λa=>(eK y c).bind λb=>Mo o a b
def yC(x:V)(a:aH):Option Bool:=(eK x a).bind jn
noncomputable def idxV(l:List V)(i:Int):Option V:=
 if 0<=i then l[i.toNat]? else if-(l.length:Int)<=i then l[(i+l.length).toNat]? else aC
def qK(a i:V):Option V:=match a with
 | .a8 l=>(match i with| .a5 i=>idxV l i|_=>aC)
 | .a7 l=>(match i with| .a5 i=>idxV l i|_=>aC)
 | .b7 l=>(match dY i l with|true=>dF i l|false=>aC)
 |_=>aC
def rQ(x i:V)(b:aH):Option V:=(eK x b).bind λa=>qK a i
inductive dD where
 |lo (n:Nat)|hi (n:Nat)|D7 (n m:Nat)|x5 (n:Nat)|v6 (n:Nat)|w7
noncomputable def IU(c:dD)(k:Nat):Bool:=match c with
 | .D7 n m=>aQ (1<=n)&&aQ (n<=m)&&aQ (m<=k)
 | .v6 n=>aQ (1<=n)&&aQ (n<k)
 | .lo n=>aQ (1<=n)&&aQ (n<=k)
 | .x5 n=>aQ (1<=n)&&aQ (n<=k)
 |_=>aI
noncomputable def Ki(c:dD):Bool:=match c with
 | .D7 _ _=>aI
 | .x5 n=>aQ<|1<=n
 | .v6 n=>aQ<|1<=n
 |_=>aB
noncomputable def xP{a:Type}(c:dD)(l:List a):List a:=match c with
 | .lo n=>l.drop n
 | .hi n=>l.take n
 | .D7 n m=>(l.take m).drop n
 | .x5 n=>l.take<|l.length-n
 | .v6 n=>l.drop<|l.length-n
 | .w7=>l.reverse
noncomputable def zQ(e:aT):Option {p:aX×cY//e= .Name p.1 p.2}:=match e with
 | .Name a b=>aA ⟨(a,b),rfl⟩
 |_=>aC
noncomputable def Ph(e:aT):Option {p:EE×Nat×cY//e= .Constant p.1 p.2.1 p.2.2}:=match e with
 | .Constant a b c=>aA ⟨(a,b,c),rfl⟩
 |_=>aC
noncomputable def vUn(e:aT):Option {p:UnaryOp×aT×cY//e= .UnaryOp p.1 p.2.1 p.2.2}:=match e with
 | .UnaryOp a b c=>aA ⟨(a,b,c),rfl⟩
 |_=>aC
noncomputable def Gc(e:aT):Option {p:List aT×Nat×cY//e= .Tuple p.1 p.2.1 p.2.2}:=match e with
 | .Tuple a b c=>aA ⟨(a,b,c),rfl⟩
 |_=>aC
noncomputable def GS(e:aT):Option {p:aT×aX×cY//e= .Attribute p.1 p.2.1 p.2.2}:=match e with
 | .Attribute a b c=>aA ⟨(a,b,c),rfl⟩
 |_=>aC
noncomputable def MR(e:aT):Option {p:aT×aT×cY//e= .Subscript p.1 p.2.1 p.2.2}:=match e with
 | .Subscript a b c=>aA ⟨(a,b,c),rfl⟩
 |_=>aC
noncomputable def MN(e:aT):Option {p:aT×List aT×List Keyword×cY//e= .Call p.1 p.2.1 p.2.2.1 p.2.2.2}:=match e with
 | .Call a b c d=>aA ⟨(a,b,c,d),rfl⟩
 |_=>aC
noncomputable def xj(e:aT):Option {p:Option aT×Option aT×Option aT×cY//e= .Slice p.1 p.2.1 p.2.2.1 p.2.2.2}:=match e with
 | .Slice a b c d=>aA ⟨(a,b,c,d),rfl⟩
 |_=>aC
noncomputable def UY(e:aT):Option {p:aT×cY//e= .FormattedValue p.1 (-1) aC p.2}:=match e with
 | .FormattedValue v c a b=>(match c,a with
  | .negSucc 0,aC=>aA ⟨(v,b),rfl⟩
  |_,_=>aC)
 |_=>aC
noncomputable def MW:EE->Option aX
 | .str i=>aA i
 |_=>aC
def JF(e:aT):Option {p:(aX×cY)×List aT×cY//e= .Call (.Name p.1.1 p.1.2) p.2.1 [] p.2.2}:=match MN e with
 |none=>aC
 |some ⟨(f,a,k,p),h⟩=>match zQ f,k,h with
  |some ⟨q,g⟩,[],h=>aA ⟨(q,a,p),h.trans (aN (Expr.Call · a [] p) g)⟩
  |_,_,_=>aC
noncomputable def UI:EE->Option Int
 | .int i=>aA i
 |_=>aC
noncomputable def OW:UnaryOp->Bool
 | .USub=>aB
 |_=>aI
def GI(e:aT):Option Int:=(Ph e).bind λc=>UI c.1.1
def OY(e:aT):Option Int:=(vUn e).bind λu=>match OW u.1.1 with
 |true=>(GI u.1.2.1).map λi=> -i
 |false=>aC
def Iy:Option aT->Option (Option Int)
 |none=>aA aC
 |some e=>match GI e with
  |some i=>aA<|aA i
  |none=>(OY e).map aA
noncomputable def Xg:Option Int->Option Int->Option Int->Option dD
 |none,a,aC=>(match a with
  |some i=>aA (match i with| .ofNat n=> .hi n| .negSucc n=> .x5 (n+1))
  |none=>aC)
 |some b,a,aC=>(match a with
  |none=>aA (match b with| .ofNat n=> .lo n| .negSucc n=> .v6 (n+1))
  |some i=>(match b with| .ofNat n=>(match i with| .ofNat m=>aA (.D7 n m)|_=>aC)|_=>aC))
 |none,aC,aA c=>(match c with| .negSucc 0=>aA .w7|_=>aC)
 |_,_,_=>aC
def GX(e:aT):Option dD:=(xj e).bind λp=>(Iy p.1.1).bind λa=>(Iy p.1.2.1).bind λb=>(Iy p.1.2.2.1).bind λc=>Xg a b c
def Fg(c:dD):V->Option V
 | .a8 l=>gI (IU c l.length)<|.a8 (xP c l)
 | .a7 l=>gI (Ki c)<|.a7 (xP c l)
 |_=>aC
noncomputable def iG{b:Type}(k:Nat):List (Nat×b)->Option b
 |[]=>aC
 |(a,x)::r=>if bZ a k then aA x else iG k r
noncomputable def qO:List (Nat×aM):=[(999,131),(1099,138),(1199,143),(1299,150),(1399,155),(1500,169),(1501,176),(1600,225),(1601,232),(1602,239),(1603,246),(1604,253),(1605,260),(2200,302),(2201,309),(2202,314),(2203,321),(2204,328),(2300,349),(2301,356),(2302,361),(2303,368),(2400,389),(2401,394),(2402,399),(3000,429),(3001,436),(3002,443),(3003,448),(3004,453),(3005,458),(3006,463),(3008,473),(3009,478),(3010,483),(3100,523),(3101,530),(3102,537),(3103,544),(3104,549),(3105,554),(3106,559),(3107,564),(3111,590),(3112,597),(3200,621),(3202,633),(3203,640),(3204,647),(3300,689),(3301,694),(3304,713),(3305,720),(3306,727),(3310,753),(3311,760),(3600,793),(3601,800),(3602,807),(3603,814),(3604,819),(3605,826),(3606,833),(3607,838),(3608,845),(3609,852),(3611,866),(3612,873),(3613,880),(3614,885),(3615,892),(3616,899),(3617,906),(3618,913),(3619,920),(3620,927),(3622,941),(3899,955),(3999,962),(4099,969),(4199,976),(4299,983),(4399,988),(4499,993),(4599,998),(4699,1003),(4799,1010),(4899,1015),(4999,1020),(5099,1025)]
noncomputable def Ai:List (Nat×aM):=[(15,207),(16,284),(22,331),(23,371),(24,402),(33,777),(36,944)]
noncomputable def MJ:List (Nat×List (Nat×aX)):=[(15,[(64092861171,cD "names"),(1050784625686899,cD "numbers")]),(16,[(138410163366050277,cD "universe"),(7795344388723,cD "bounds"),(1050784625686899,cD "numbers")]),(22,[(2248903923324291953395,cD "signatures"),(1006252523878004,cD "default"),(513537636,cD "told"),(1055077183566564,cD "ordered")]),(23,[(2248903923324291953395,cD "signatures"),(63304348275,cD "kinds"),(496761459,cD "lots")]),(24,[(2248903923324291953395,cD "signatures"),(63304348275,cD "kinds")]),(33,[(2248903923324291953395,cD "signatures"),(35643093460954271031439987,cD "known_fields"),(34272352658209873594102387,cD "begun_fields"),(139479195766731763,cD "warnings"),(61140055667,cD "calls"),(267752755142263815485043,cD "begun_calls"),(473757171,cD "asks"),(64652603877,cD "place")]),(36,[(1010963601584883,cD "entries"),(8380760175219,cD "stands"),(8242255868644,cD "opened"),(1055077183566564,cD "ordered"),(2213023116341192372851,cD "own_fields")])]
def rP(c k:Nat):Bool:=match iG c MJ with
 |some l=>l.any λp=>bZ p.1 k
 |none=>aI
noncomputable def lZ(k:Nat):List (Nat×V)->Option V
 |[]=>aC
 |(a,x)::r=>if bZ a k then aA x else lZ k r
noncomputable def xH(k:Nat)(x:V):List (Nat×V)->List (Nat×V)
 |[]=>[(k,x)]
 |(a,y)::r=>if bZ a k then(a,x)::r else(a,y)::xH k x r
def HG(a:Nat)(x:V)(b:aH):Option V:=match x with
 | .a9 p=>(match b[p]? with
  |some (.g9 c d)=>(match rP c a with|true=>lZ a d|false=>aC)
  |_=>aC)
 |_=>aC
def GZ(a:Nat)(x v:V)(b:aH):Option aH:=match x with
 | .a9 p=>(match b[p]? with
  |some (.g9 c d)=>(match rP c a&&mX d.length 100 with|true=>aA (b.set p<|.g9 c (xH a v d))|false=>aC)
  |_=>aC)
 |_=>aC
def El(x i v:V)(a:aH):Option aH:=match x with
 | .a9 p=>(match a[p]? with
  |some (.b7 l)=>(match dY i l&&aQ (l.length<cF)with|true=>aA (a.set p<|.b7 (gV i v l))|false=>aC)
  |_=>aC)
 |_=>aC
noncomputable def sX(i:Int):aX:=cD<|toString i
noncomputable def Be:List V->Option aX
 |[]=>aA yQ
 |v::r=>match v with
  | .d9 s=>(Be r).map λt=>s++t
  |_=>aC
def OB:V->Option V
 | .d9 s=>aA<|.d9 s
 | .a5 i=>gI (nT i)<|.d9 (sX i)
 |_=>aC
structure Fn where
 r6:List aX
 A4:List kW
 i0:List (aX×iL)
noncomputable def aMP:kW->Option Fn
 | .FunctionDef _ a b _ _ _ c _ _ _=>aA ⟨a.args.map (·.arg),b,c.names⟩
 |_=>aC
noncomputable def oh:kW->List kW
 | .ClassDef _ _ _ b _ _ _ _ _ _ _=>b
 |_=>[]
noncomputable abbrev aKV:List kW:=sF.main.body
def aDS(a:Nat):kW:=
 let s:=aKV.getD (a/100)<|.Pass qX
 if bZ (a % 100) 99 then s else(oh s).getD (a % 100) (.Pass qX)
def Jp(a:Nat):Option Fn:=aMP<|aDS a
inductive G where
 |fn (fid:Nat)|s5 (c:Nat)|bi (b:Nat)|i4 (v:V)|ty (n:Nat)
noncomputable def oY:List (Nat×G):=[
 (3879662,.bi 0),
 (65166619621,.bi 1),
 (8379453747940,.bi 2),
 (479883764,.bi 3),
 (65745466981,.bi 4),
 (496663028,.bi 5),
 (3994356,.bi 6),
 (2157391905414463599077,.bi 7),
 (3896558,.bi 8),
 (4109552,.bi 9),
 (3699059,.bi 10),
 (3996274,.bi 11),
 (16130072790460838135,.fn 3899),
 (65999108078,.fn 1099),
 (1059478180819444,.fn 1399),
 (16854580587138790638,.fn 1299),
 (63841221363,.fn 1199),
 (8376773244902,.fn 999),
 (126016193675655013,.fn 4099),
 (2064649317182195922158,.fn 4199),
 (16130072790494509157,.fn 4299),
 (16130072790479665652,.fn 4799),
 (126016193675456750,.fn 4899),
 (2064649317183246612069,.fn 3999),
 (264275112598976683782771,.fn 4399),
 (33827214412708906897552100,.fn 4499),
 (2064649317182982584421,.fn 4599),
 (16130072790477568627,.fn 4699),
 (2064649317180333717235,.fn 4999),
 (120395764856568293,.s5 15),
 (6695832760947,.s5 16),
 (910047137331571,.s5 22),
 (7348925593971,.s5 23),
 (7276714537715,.s5 24),
 (14263396538456453747,.s5 33),
 (1953756018144939127539,.s5 36),
 (3402702,.i4 (.d9 (cD "this/"))),
 (116893635329550151,.i4 (.d9 (cD "util/ordering"))),
 (1896530915048067163859,.i4 (.a5 500)),
 (242755957126805702517459,.i4 (.a5 100000)),
 (3831668,.ty 0),
 (475789292,.ty 1)]
noncomputable def HQ:List (Nat×List (Nat×Nat)):=[
 (15,[(125959291554050015,1500),(511343973,1501)]),
 (16,[(125959291554050015,1600),(3699300,1601),(139479059917501172,1602),(1011302067418745,1603),(60901128036,1604),(511343973,1605)]),
 (22,[(125959291554050015,2200),(513308133,2201),(17719367717464160242,2202),(8138939430886,2203),(2129438621145853589478,2204)]),
 (23,[(125959291554050015,2300),(8239559013607,2301),(17279607116371162862,2302),(134996931389257316,2303)]),
 (24,[(125959291554050015,2400),(127177756348250086,2401),(16348022075500787686,2402)]),
 (33,[(125959291554050015,3300),(1037178441824230,3301),(17204796409639499620,3304),(127692289655600996,3305),(2083537942605037467492,3306),(8275533296371,3310),(60879928046,3311),(8381064115833,3200),(60626204133,3202),(283109092600055898667635,3203),(8070197129956,3204),(519600494,3101),(137262198345594724,3102),(17289243098546402035,3103),(1010963601584883,3104),(2128998952246600955748,3105),(272511865888248899991396,3106),(135072211718009843,3107),(2285224917890458514164,3111),(2092546825658757183332,3112),(131676410310374130,3001),(134412647272411890,3002),(7829687334894,3003),(64652604654,3004),(287859693749881953548147,3005),(513538163,3006),(498692852,3008),(492565742,3009),(1059478180819444,3010)]),
 (36,[(125959291554050015,3600),(137790102951490791,3601),(2184777154962164284261,3602),(7862446813684,3603),(4657068899880487522731342324,3604),(2083102148390901461619,3605),(279651475835330684990067,3606),(2257553046756170216178,3607),(64092861171,3608),(3813619,3609),(8272616191860,3611),(8381059922291,3612),(16854580452883493620,3613),(128250673238946542,3614),(60605332325,3615),(4012016,3616),(16274235532947225445,3617),(276145435923965525127668,3618),(498955892,3619),(7931139142259,3620),(8242790496627,3622)])]
abbrev rX(k:Nat)(l:List (Nat×G)):Option G:=iG k l
def tC(c m:Nat):Option Nat:=(iG c HQ).bind<|iG m
noncomputable def FH:Nat->Option Nat
 |3100=>aA 3000
 |3300=>aA 3100
 |_=>aC
noncomputable def Se:List Nat:=[3604,3605,3615,3617,4499,4699,4999,2401]
noncomputable def aLX:List Nat:=[72,214,226,656,657,690,700,751,763,825,833,839,880,895]
noncomputable def aEB:List Nat:=[690,763]
noncomputable def aLR:List Nat:=[839]
noncomputable def oy:List Nat:=[318]
def jM(k:Nat):List (aX×iL)->Option iL
 |[]=>aC
 |(a,x)::r=>if bZ (key a) k then aA x else jM k r
noncomputable def DI:iL->Bool
 | .local=>aB
 | .cell=>aB
 |_=>aI
def Nc:List (aX×iL)->Bool
 |[]=>aB
 |(a,_)::r=>r.all (λp=> !(bZ (key p.1)<|key a))&&Nc r
noncomputable def tu:ScopeKind->Bool
 | .function=>aB
 |_=>aI
def aFB(a:List (aX×iL)):Bool:=a.all λp=>fX p.1&& !(p.1==("__debug__":aX))&& !(p.1==("__classdict__":aX))
noncomputable def Sa:iL->Bool
 | .local=>aB
 | .cell=>aB
 | .free=>aB
 | .globalImplicit=>aB
 |_=>aI
def AN(a:List (aX×iL)):Bool:=aFB a&&(Nc a&&a.all λp=>Sa p.2)
def CV(a:wQ):Bool:=tu a.kind&&AN a.names
def eD:List (aX×iL)->List (aX×iL)
 |[]=>[]
 |(a,x)::r=>match x with
  | .globalImplicit=>eD r
  |x=>if bZ (key a) 22320 then eD r else(a,x)::eD r
def nG(k:Nat):List (aX×iL)->Nat
 |[]=>0
 |(a,_)::r=>if bZ (key a) k then 0 else nG k r+1
def yE:List V->List (V×V)->Option (List<|V×V)
 |[],acc=>aA acc
 |p::r,acc=>match p with
  | .a8 [k,x]=>(match dY k acc with|true=>yE r (gV k x acc)|false=>aC)
  |_=>aC
noncomputable def Ej(a b:Int):Bool:=aQ (-1000000<=a)&&aQ (a<=1000000)&&aQ (-1000000<=b)&&aQ (b<=1000000)
noncomputable def nJ:V->Option (List V)
 | .a8 l=>aA l
 | .a7 l=>aA l
 |_=>aC
def rY(l:List V):Option V:=gI (jL l)<|.a7 (nY l)
def Mk(f:Nat)(x:V):Option V:=match f with
 |0=>(match x with
  | .b7 l=>gI (gE l)<|.a5 l.length
  |x=>(nJ x).map λl=> .a5 l.length)
 |1=>(match x with
  | .b7 l=>(match l.all λp=>gP p.1 with|true=>rY (l.map (·.1))|false=>aC)
  |x=>(nJ x).bind rY)
 |2=>(nJ x).bind λl=>match jL l&&aQ (l.length<=300)with|true=>rY (mV [] l)|false=>aC
 |3=>(match x with
  | .b7 l=>gI (gE l)<|.b7 l
  | .a7 l=>(yE l []).map .b7
  |_=>aC)
 |4=>(nJ x).map .a8
 |5=>(match x with
  | .b7 l=>gI (gE l) (.a7 (l.map (·.1)))
  |x=>(nJ x).map .a7)
 |6=>(match x with| .a5 a=>aA (.a5 (if a<0 then-a else a))|_=>aC)
 |7=>(match x with| .a5 a=>gI (nT a) (.d9 (sX a))|_=>aC)
 |8=>OB x
 |_=>aC
def iX(f:Nat)(x:V)(a:aH):Option V:=(eK x a).bind<|Mk f
noncomputable def YU(t:Nat):V->Option V
 | .a5 _=>(match t with|0=>aA (.e8 aB)|1=>aA (.e8 aI)|_=>aC)
 | .a8 _=>(match t with|2=>aA (.e8 aB)|_=>aC)
 |_=>aC
noncomputable def Pd(x y:V):Option V:=match x with
 | .a5 a=>(match y with| .a5 c=>aA (.a5 (if c<a then c else a))|_=>aC)
 |_=>aC
def GR(x:V)(l:List V):Option (List V):=match iC x&&l.all iC with
 |true=>(l.findIdx? λy=>cN y x).map λj=>l.eraseIdx j
 |false=>aC
noncomputable def DQ(m:Nat):Option V:=if bZ m 7761242453860 then aA (.a5 (.negSucc 0))else if bZ m 7900837279588 then aA (.a5 (.negSucc 1))else if bZ m 3946480 then aA (.a5 (.negSucc 2))else if bZ m 8342399089509 then aA (.a5 (.negSucc 3))else aC
def vN(m:Nat)(o:V)(a:aH):Option V:=match o with
 | .a9 p=>(match a[p]? with
  |some (.g9 c _)=>(tC c m).map λf=> .a5 (.ofNat f)
  |some (.a7 _)=>DQ m
  |some (.b7 _)=>gI (bZ m 3797748)<|.a5 (.negSucc 4)
  |none=>aC)
 | .b7 _=>gI (bZ m 3797748)<|.a5 (.negSucc 4)
 |_=>aC
def Il(f p:Nat)(l:List V)(x:V)(a:aH):Option (V×aH):=match f with
 |0=>(match aQ (l.length<cF)with|true=>aA (.h9,a.set p<|.a7 (l++[x]))|false=>aC)
 |1=>((eK x a).bind nJ).bind λr=>(match aQ ((l++r).length<=cF)with|true=>aA (.h9,a.set p<|.a7 (l++r))|false=>aC)
 |2=>(match x with
  | .a5 (.ofNat i)=>l[i]?.map λx=>(x,a.set p<|.a7 (l.eraseIdx i))
  |_=>aC)
 |3=>(GR x l).map λr=>(.h9,a.set p<|.a7 r)
 |_=>aC
def Ir(l:List (V×V))(b:List V)(a:aH):Option (V×aH):=match b with
 |[k,d]=>(match dY k l with|true=>aA ((dF k l).getD d,a)|false=>aC)
 |_=>aC
def yP(f:Nat)(o:V)(b:List V)(a:aH):Option (V×aH):=match f with
 |4=>(match eK o a with|some (.b7 l)=>Ir l b a|_=>aC)
 |f=>(match o with
  | .a9 p=>(match a[p]? with
   |some (.a7 l)=>(match b with|[x]=>Il f p l x a|_=>aC)
   |_=>aC)
  |_=>aC)
set_option genCtorIdx true in
inductive It where|i4|r1|r2|J1
inductive Co where
 |j1|e9|r4|b8
 |a6 (v:V) (k:Co)|a0 (i:Nat) (k:Co)|b9 (i:Nat) (k:Co)|l4 (k:Co)|un (n:Nat) (k:Co)
 |j0 (o:KJ) (k:Co)|f6 (o:qW) (k:Co)|v1 (k:Co)|M1 (k:Co)
 |br (a b:Co)|I8 (c:Co)|O4 (c:Co)|I5 (o:qW) (c:Co)
 |a8 (n:Nat) (k:Co)|a7 (n:Nat) (k:Co)|b7 (n:Nat) (k:Co)|j6 (k:Co)
 |i6 (a:Nat) (k:Co)|e7 (k:Co)|v0 (c:dD) (k:Co)|D6 (n:Nat) (k:Co)
 |p1 (f:Nat) (k:Co)|I3 (k:Co)|A7 (t:Nat) (k:Co)
 |j9 (f n:Nat) (k:Co)|f9 (m:Nat) (k:Co)|f8 (n:Nat) (k:Co)|u0 (c n:Nat) (k:Co)|i7 (f n:Nat) (k:Co)
 |n8 (a:Nat) (k:Co)|r7 (k:Co)
 |j2 (c k:Co)|i5 (c k:Co)
 |fr (t:It) (b k:Co)|E5 (b k:Co)|j8 (cap:List (Option Nat)) (t:It) (b k:Co)|v7 (t:It) (b:Co)|k8|n9
inductive Fl where|e9|r4|b8 (v:V)
noncomputable abbrev PF:=Fl->Lc->aH->Prop
noncomputable abbrev PR:=List V->Lc->aH->Prop
noncomputable abbrev cR:=Nat->List V->aH->(V->aH->Prop)->Prop
inductive Sr where|h9|a7 (p:Nat)|b7 (p:Nat)
noncomputable def lg:Nat->Lc->Option V
 |_,[]=>aC
 |0,a::_=>a
 |k+1,_::r=>lg k r
noncomputable def lp:Nat->V->Lc->Lc
 |_,_,[]=>[]
 |0,v,_::r=>aA v::r
 |k+1,v,a::r=>a::lp k v r
@[reducible] noncomputable def uG:Nat->List V->List V->(List V->List V->Prop)->Prop
 |0,a,acc,R=>R acc a
 |n+1,a,acc,R=>match a with
  |v::a=>uG n a (v::acc) R
  |[]=>False
@[reducible] noncomputable def nZ(a:List V)(R:V->List V->Prop):Prop:=match a with
 |v::r=>R v r
 |[]=>False
@[reducible] noncomputable def Al(a:List V)(R:V->V->List V->Prop):Prop:=match a with
 |x::y::r=>R x y r
 |_=>False
@[reducible] noncomputable def aPA(a:List V)(R:V->V->V->List V->Prop):Prop:=match a with
 |x::y::z::r=>R x y z r
 |_=>False
inductive wP (o:Option V) (R:PR) (vs:List V) (L:Lc) (σ:aH):Prop
 |of {v:V} (h:o=aA v) (q:R (v::vs) L σ)
@[reducible] noncomputable def wL(o:Option V)(R:PR)(b:List V)(L:Lc)(a:aH):Prop:=match o with
 |some v=>R (v::b) L a
 |none=>False
inductive wB (o:Option Bool) (p q:Prop):Prop
 |of {b:Bool} (h:o=aA b) (t:b=aB->p) (f:b=aI->q)
inductive wU (o:Option (V×aH)) (R:PR) (vs:List V) (L:Lc):Prop
 |of {v:V} {σ:aH} (h:o=aA (v,σ)) (q:R (v::vs) L σ)
inductive wS (o:Option aH) (R:PR) (vs:List V) (L:Lc):Prop
 |of {σ:aH} (h:o=aA σ) (q:R vs L σ)
inductive wG (b:Bool) (p:Prop):Prop
 |of (h:b=aB) (q:p)
noncomputable def xR:Option Bool->Option V
 |some b=>aA<|.e8 b
 |none=>aC
@[reducible] noncomputable def rk(R:PR)(b:List V)(L:Lc):V->aH->Prop:=λv a=>R (v::b) L a
@[reducible] noncomputable def nk(R:PR)(b:List V)(L:Lc):V->aH->Prop:=λv a=>match v with
 | .h9=>R b L a
 |_=>False
@[reducible] noncomputable def rU(R:PR)(K:PF):PF:=λa=>match a with
 | .e9=>R []
 |a=>K a
@[reducible] noncomputable def CD(R:PR)(b:List V):PF:=λc L a=>match c with
 | .b8 v=>R (v::b) L a
 |_=>False
inductive dS (o:Option (List V)) (R:PR) (vs:List V) (L:Lc) (σ:aH):Prop
 |of {l:List V} (h:o=aA l) (q:R (l++vs) L σ)
def TT(n:Nat)(v:V):Option (List V):=(nJ v).bind λl=>match bZ l.length n with|true=>aA l|false=>aC
def OQ:List V->List (V×V)->Option V
 |[],acc=>aA<|.b7 acc
 |k::r,acc=>match r with
  |x::r=>(match iC k with|true=>OQ r (gV k x acc)|false=>aC)
  |[]=>aC
noncomputable def Pb:V->Option O
 | .a7 l=>aA<|.a7 l
 | .b7 l=>aA<|.b7 l
 |_=>aC
@[reducible] noncomputable def xt(v:V)(R:PR)(b:List V)(L:Lc)(a:aH):Prop:=match Pb v with
 |some o=>R (.a9 a.length::b) L<|a++[o]
 |none=>False
@[reducible] noncomputable def aBW(v:V)(p:Prop):Prop:=match v with
 | .h9=>p
 | .a5 _=>p
 |_=>False
@[reducible] noncomputable def Tx(C:cR)(c o:V)(l:List V)(R:PR)(b:List V)(L:Lc)(a:aH):Prop:=match c with
 | .a5 i=>(match i with
  | .ofNat f=>C f (o::l) a<|rk R b L
  | .negSucc f=>wU (yP f o l a) R b L)
 |_=>False
@[reducible] noncomputable def Gn(C:cR)(c:Nat)(l:List V)(R:PR)(b:List V)(L:Lc)(a:aH):Prop:=match tC c 125959291554050015 with
 |some f=>C f (.a9 a.length::l) (a++[.g9 c []])<|nk (λs=>R (.a9 a.length::s)) b L
 |none=>False
@[reducible] noncomputable def CN(C:cR)(f:Nat)(l:List V)(R:PR)(b:List V)(L:Lc)(a:aH):Prop:=match lg 0 L with
 |some (.a9 p)=>(match a[p]? with
  |some (.g9 c _)=>wG (bZ c 33)<|C f (.a9 p::l) a<|nk R b L
  |_=>False)
 |_=>False
def tA(x:V)(a:aH):Option (Sr×List V):=match x with
 | .a8 l=>aA (.h9,l)
 | .a7 l=>aA (.h9,l)
 | .b7 l=>(match gE l with|true=>aA (.h9,l.map (·.1))|false=>aC)
 | .a9 p=>(match a[p]? with
  |some (.a7 l)=>aA (.a7 p,l)
  |some (.b7 l)=>(match gE l with|true=>aA (.b7 p,l.map (·.1))|false=>aC)
  |_=>aC)
 |_=>aC
noncomputable def CE(a b:Int):List V:=(eW (b-a).toNat).map λ(k:Nat)=>V.a5<|a+(k:Int)
noncomputable def Bz:List V->List V->List V
 |a::r,b::t=> .a8 [a,b]::Bz r t
 |_,_=>[]
noncomputable def Oj:V->V->Bool
 | .a8 _,.a8 _=>aB
 | .a7 _,.a7 _=>aB
 |_,_=>aI
inductive cH (o:Option (Sr×List V)) (R:Sr->List V->Prop):Prop
 |of {src:Sr} {l:List V} (h:o=aA (src,l)) (q:R src l)
@[reducible] noncomputable def Ju(t:It)(c:List V)(d:aH)(R:Sr->List V->List V->Prop):Prop:=match t with
 | .i4=>nZ c λx r=>cH (tA x d) λs l=>R s l r
 | .r1=>nZ c λx r=>match x with
  | .a5 n=>wG (Ej 0 n)<|R .h9 (CE 0 n) r
  |_=>False
 | .r2=>Al c λy x r=>match x with
  | .a5 a=>(match y with| .a5 b=>wG (Ej a b) (R .h9 (CE a b) r)|_=>False)
  |_=>False
 | .J1=>Al c λy x r=>wG (Oj x y)<|cH ((nJ x).bind λl=>(nJ y).map λm=>(.h9,Bz l m)) λs l=>R s l r
noncomputable def lM(b:Sr)(a:List V)(c:aH):Prop:=match b with
 | .h9=>True
 | .a7 p=>c[p]? =aA (.a7 a)
 | .b7 p=>∃m,c[p]? =aA (.b7 m)/\gE m=aB/\m.map (·.1)=a
noncomputable abbrev Cu:=V->PF->Lc->aH->Prop
@[reducible] noncomputable def aOV(b:Sr)(c:List V)(R:Lc->aH->Prop)(K:PF):PF:=λd L a=>lM b c a/\match d with
 | .e9=>R L a
 | .r4=>False
 | .b8 v=>K (.b8 v) L a
noncomputable def Jg(B:Cu)(a:Sr)(b:List V)(R:Lc->aH->Prop)(K:PF):List V->Lc->aH->Prop
 |[]=>R
 |x::r=>B x<|aOV a b (Jg B a b R K r) K
inductive Da (B:Cu) (src:Sr) (all:List V) (R:Lc->aH->Prop) (K:PF) (L:Lc) (σ:aH):Prop
 |of (h:Jg B src all R K all L σ)
@[reducible] noncomputable def ug(A R:Lc->aH->Prop)(K:PF):PF:=λa=>match a with
 | .e9=>A
 | .r4=>R
 |a=>K a
noncomputable def Gb(B:PF->Lc->aH->Prop)(R:Lc->aH->Prop)(K:PF):Nat->Lc->aH->Prop
 |0=>λa a=>False
 |n+1=>B<|ug (Gb B R K n) R K
inductive GY (B:PF->Lc->aH->Prop) (R:Lc->aH->Prop) (K:PF) (L:Lc) (σ:aH):Prop
 |of (h:Gb B R K 1000 L σ)
noncomputable def res:Lc->Lc->Lc
 |[],_=>[]
 |o::r,m=>match m with
  |[]=>[]
  |y::t=>(match o with|none=>aC|some _=>y)::res r t
@[reducible] noncomputable def cK(L:Lc)(b:aH)(l:List V):PF:=λc d a=>a=b/\c= .b8 (.a7 l)/\res L d=L
noncomputable def FG(B:Cu)(L:Lc)(a:aH):List V->List (List V)->Prop
 |[],b=>b=[]
 |x::r,b=>match b with
  |[]=>False
  |l::m=>B x (cK L a l) L a/\FG B L a r m
inductive xZ (B:Cu) (L:Lc) (σ:aH) (xs:List V) (P:List V->Prop):Prop
 |of {ls:List (List V)} (h:FG B L σ xs ls) (q:P ls.flatten)
def Gr(a:List (Option Nat))(L:Lc):Lc:=a.map λk=>match k with
 |none=>aC
 |some k=>lg k L
noncomputable def aS(C:cR):Co->PF->List V->Lc->aH->Prop
 | .j1,_=>λg g g=>False
 | .e9,K=>λg L d=>K .e9 L d
 | .r4,K=>λg L d=>K .r4 L d
 | .b8,K=>λe L d=>nZ e λv g=>K (.b8 v) L d
 | .k8,K=>λe L d=>nZ e λv g=>K (.b8 (.a7 [v])) L d
 | .n9,K=>λg L d=>K (.b8 (.a7 [])) L d
 | .a6 v k,K=>λe=>aS C k K (v::e)
 | .a0 i k,K=>λe L d=>wL (lg i L) (aS C k K) e L d
 | .b9 i k,K=>λe L d=>nZ e λv r=>aS C k K r (lp i v L) d
 | .l4 k,K=>λe L d=>nZ e λv r=>aBW v<|aS C k K r L d
 | .un n k,K=>λe L d=>nZ e λv r=>dS (TT n v) (aS C k K) r L d
 | .j0 o k,K=>λe L d=>Al e λy x r=>wP (nL o x y d) (aS C k K) r L d
 | .f6 o k,K=>λe L d=>Al e λy x r=>wP (xR<|dZ o x y d) (aS C k K) r L d
 | .v1 k,K=>λe L d=>nZ e λv r=>wP (match v with| .a5 i=>aA (.a5 (-i))|_=>aC) (aS C k K) r L d
 | .M1 k,K=>λe L d=>nZ e λv r=>wP (xR<|(yC v d).map oK) (aS C k K) r L d
 | .br a b,K=>λe L d=>nZ e λv r=>wB (yC v d) (aS C a K r L d)<|aS C b K r L d
 | .I8 c,K=>λe L d=>nZ e λv r=>wB (yC v d) (K (.b8 v) L d)<|aS C c K r L d
 | .O4 c,K=>λe L d=>nZ e λv r=>wB (yC v d) (aS C c K r L d)<|K (.b8 v) L d
 | .I5 o c,K=>λe L d=>Al e λy x r=>wB (dZ o x y d) (aS C c K (y::r) L d)<|K (.b8 (.e8 aI)) L d
 | .a8 n k,K=>λe L d=>uG n e [] λl r=>aS C k K (.a8 l::r) L d
 | .a7 n k,K=>λe L d=>uG n e [] λl r=>aS C k K (.a7 l::r) L d
 | .b7 n k,K=>λe L d=>uG (n+n) e [] λl r=>wP (OQ l []) (aS C k K) r L d
 | .j6 k,K=>λe L d=>nZ e λv r=>xt v (aS C k K) r L d
 | .i6 a k,K=>λe L d=>nZ e λv r=>wP (HG a v d) (aS C k K) r L d
 | .e7 k,K=>λe L d=>Al e λi x r=>wP (rQ x i d) (aS C k K) r L d
 | .v0 c k,K=>λe L d=>nZ e λv r=>wP ((eK v d).bind<|Fg c) (aS C k K) r L d
 | .D6 n k,K=>λe L d=>uG n e [] λl r=>wP ((Be l).bind λt=>gI (aQ<|t.length<=cF)<|.d9 t) (aS C k K) r L d
 | .p1 f k,K=>λe L d=>nZ e λv r=>wP (iX f v d) (aS C k K) r L d
 | .I3 k,K=>λe L d=>Al e λy x r=>wP (Pd x y) (aS C k K) r L d
 | .A7 t k,K=>λe L d=>nZ e λv r=>wP (YU t v) (aS C k K) r L d
 | .j9 f n k,K=>λe L d=>uG n e [] λl r=>C f l d<|rk (aS C k K) r L
 | .f9 m k,K=>λe L d=>nZ e λv r=>wP (vN m v d) (aS C k K) (v::r) L d
 | .f8 n k,K=>λe L d=>uG n e [] λl r=>Al r λc o r=>Tx C c o l (aS C k K) r L d
 | .u0 c n k,K=>λe L d=>uG n e [] λl r=>Gn C c l (aS C k K) r L d
 | .i7 f n k,K=>λe L d=>uG n e [] λl r=>CN C f l (aS C k K) r L d
 | .n8 a k,K=>λe L d=>Al e λo v r=>wS (GZ a o v d) (aS C k K) r L
 | .r7 k,K=>λe L d=>aPA e λi o v r=>wS (El o i v d) (aS C k K) r L
 | .j2 c k,K=>λe L d=>aS C c (CD (aS C k K) e) [] L d
 | .i5 c k,K=>λe L d=>aS C c (rU (aS C k K) K) [] L d
 | .fr t b k,K=>λe L d=>Ju t e d λh xs r=>Da (λy K=>aS C b K [y]) h xs (aS C k K r) K L d
 | .E5 b k,K=>λe L d=>GY (λK=>aS C b K []) (aS C k K e) K L d
 | .j8 j t b k,K=>λe L d=>Ju t e d λg xs r=>xZ (λy K=>aS C b K [y]) (Gr j L) d xs λl=>wG (aQ<|l.length<=cF)<|aS C k K (.a7 l::r) L d
 | .v7 t b,K=>λe L d=>Ju t e d λg xs g=>xZ (λy K=>aS C b K [y]) L d xs λl=>K (.b8 (.a7 l)) L d
noncomputable def vX:aT->Bool
 | .Set .. =>aB
 |_=>aI
noncomputable def oP:aT->Bool
 | .Starred .. =>aI
 |_=>aB
noncomputable def PM(e:aT):Option {p:aT×List BJ×wQ×cY//e= .ListComp p.1 p.2.1 p.2.2.1 p.2.2.2}:=match e with
 | .ListComp a b c d=>aA ⟨(a,b,c,d),rfl⟩
 |_=>aC
noncomputable def Fz(e:aT):Option wQ:=match e with
 | .ListComp _ _ s _=>aA s
 | .SetComp _ _ s _=>aA s
 | .DictComp _ _ _ s _=>aA s
 |_=>aC
def YV(e:aT):Bool:=match Gc e with
 |some q=> !(q.1.1.all<|constantsAlone 8)
 |none=>(zQ e).isSome||((MN e).isSome||((MR e).isSome||((GS e).isSome||(PM e).isSome)))
def Jo(t e:aT):Bool:=(zQ t).isSome||((GS t).isSome||((MR t).isSome||((Gc t).isSome&&YV e)))
def FX(o:aT):Bool:=match JF o with
 |some c=> !(bZ (key c.1.1.1) 65477030642)
 |none=>aB
def NA:List kW->Option (List aT×List kW)
 |[]=>aC
 |s::b=>match s with
  | .Expr e _=>(MN e).bind λc=>(GS c.1.1).bind λa=>(JF a.1.1).bind λn=>
   match fX n.1.1.1&&fX a.1.2.1&&c.1.2.2.1.isEmpty&&n.1.2.1.isEmpty&&bZ (key n.1.1.1) 65477030642&&bZ (key a.1.2.1) 125959291554050015&&aQ (c.1.2.1.length<30)&&a.1.2.2.endLine==c.1.2.2.2.line with
   |true=>aA (c.1.2.1,b)
   |false=>aC
  |_=>aC
noncomputable abbrev cP:=List<|aX×iL
noncomputable def Ee:iL->Bool
 | .globalImplicit=>aB
 |_=>aI
noncomputable def Po:iL->Bool
 | .free=>aB
 |_=>aI
def sP(b:cP)(a:aX):Bool:=fX a&&(jM (key a) b).elim aI Ee
noncomputable def mu(b:Bool)(k:Co):Co:=match b with|true=> .j6 k|false=>k
noncomputable def hM(b:Bool)(k:Co):Co:=match b with|true=>k|false=> .j1
noncomputable def vM(E:aT->Co->Co):List aT->Co->Co
 |[],k=>k
 |e::r,k=>E e<|vM E r k
def kD(E:aT->Co->Co)(a:List aT)(k:Co):Co:=hM (a.all oP&&jV a.length 900)<|vM E a k
def Hc(E:aT->Co->Co)(e:aT)(k:Co):Co:=match UY e with
 |some p=>E p.1.1<|.p1 8 k
 |none=>match(Ph e).bind λc=>MW c.1.1 with
  |some s=>hM (aQ<|s.length<=cF)<|.a6 (.d9 s) k
  |none=> .j1
noncomputable def IY(E:aT->Co->Co):List (Option aT)->List aT->Co->Co
 |[],[],k=>k
 |some a::r,b::t,k=>E a<|E b<|IY E r t k
 |_,_,_=> .j1
noncomputable def LY(E:aT->Co->Co):List aT->Co
 |[]=> .j1
 |e::r=>match r with
  |[]=>E e .b8
  |_=>E e<|.I8 (LY E r)
noncomputable def PC(E:aT->Co->Co):List aT->Co
 |[]=> .j1
 |e::r=>match r with
  |[]=>E e .b8
  |_=>E e<|.O4 (PC E r)
noncomputable def Fx:Co:= .a6 (.e8 aB) .b8
noncomputable def GK:Co:= .a6 (.e8 aI) .b8
def NH(T:aT->Co->Co->Co):List aT->Co
 |[]=>Fx
 |e::r=>T e (NH T r) GK
def PI(T:aT->Co->Co->Co):List aT->Co
 |[]=>GK
 |e::r=>T e Fx<|PI T r
def Uf(E:aT->Co->Co)(t:aT)(a:List aT)(k:It->Co):Co:=hM (bZ a.length 2&&(Gc t).isSome)<|kD E a<|k .J1
def NY(E:aT->Co->Co)(a:List aT)(k:It->Co):Co:=match bZ a.length 1 with
 |true=>kD E a<|k .r1
 |false=>hM (bZ a.length 2)<|kD E a<|k .r2
def aND(E:aT->Co->Co)(t:aT)(a:List aT)(k:It->Co):G->Option Co
 | .bi b=>(match bZ b 9 with
  |true=>aA<|Uf E t a k
  |false=>match bZ b 1 with
   |true=>aA<|NY E a k
   |false=>aC)
 |_=>aC
def JH(E:aT->Co->Co)(e:aT)(k:It->Co):Co:=hM (!vX e) (E e<|k .i4)
def Bm(E:aT->Co->Co)(a:cP)(t e:aT)(k:It->Co):Co:=(JF e).elim (JH E e k) λc=>
 ((rX (key c.1.1.1) oY).bind<|aND E t c.1.2.1 k).elim (JH E e k) λo=>hM (sP a c.1.1.1) o
noncomputable def Pq{a:Type}:List a->Option a
 |[]=>aC
 |y::r=>match r with
  |[]=>aA y
  |_=>aC
def Wq(b:cP)(a:List aT):Option (aT×cY×cY×aX):=(Pq a).bind λe=>(JF e).bind λc=>match bZ (key c.1.1.1) 3994356&&sP b c.1.1.1&&oP e with
 |true=>(Pq c.1.2.1).map λy=>(y,c.1.1.2,c.1.2.2,c.1.1.1)
 |false=>aC
noncomputable def vm:G->Option Nat
 | .ty t=>aA t
 | .bi b=>(match bZ b 4 with|true=>aA 2|false=>aC)
 |_=>aC
def Zq(a:cP)(e:aT):Option Nat:=(zQ e).bind λn=>match sP a n.1.1 with
 |true=>(rX (key n.1.1) oY).bind vm
 |false=>aC
noncomputable def Oh:List (Nat×Nat):=[(0,0),(2,1),(3,3),(4,4),(5,5),(10,6),(11,7)]
def Yw(E:aT->Co->Co)(a:cP)(k:Co):List aT->Co
 |[x,y]=>(Zq a y).elim .j1 λt=>hM (oP x&&oP y)<|E x<|.A7 t k
 |_=> .j1
def MA(E:aT->Co->Co)(d:cP)(b:Nat)(c:cY)(a:List aT)(k:Co):Co:=match bZ b 7 with
 |true=>Yw E d k a
 |false=>match bZ b 8 with
  |true=>hM (bZ a.length 2)<|kD E a<|.I3 k
  |false=>((match bZ b 2 with|true=>Wq d a|false=>aC).elim (((iG b Oh).elim .j1 λf=>hM (bZ a.length 1)<|kD E a<|.p1 f (mu (bZ f 5&&aEB.contains c.line) k))) λp=>hM (oP p.1)<|E p.1<|.p1 2 k)
def cG(E:aT->Co->Co)(e:cP)(d:cY)(a:List aT)(k:Co):G->Co
 | .fn g=>kD E a<|.j9 g a.length k
 | .s5 c=>kD E a<|.u0 c a.length k
 | .bi b=>MA E e b d a k
 |_=> .j1
def mj(E:aT->Co->Co)(d:cP)(a:aT)(b:List aT)(c:cY)(k:Co):Co:=(zQ a).elim .j1 λn=>hM (sP d n.1.1)<|(rX (key n.1.1) oY).elim .j1<|cG E d c b k
def Wr(E:aT->Co->Co)(e:cP)(c:aT)(b:List aT)(d:cY)(k:Co):Co:=(GS c).elim (mj E e c b d k) λa=>
 hM (aQ (b.length<30)&&a.1.2.2.endLine==d.line&&fX a.1.2.1&&FX a.1.1) (E a.1.1<|.f9 (key a.1.2.1) (kD E b<|.f8 b.length k))
def Xl(c:EE)(k:Co):Co:=match c with
 | .none=> .a6 .h9 k
 | .bool b=> .a6 (.e8 b) k
 | .int i=> .a6 (.a5 i) k
 | .str s=>hM (aQ<|s.length<=cF)<|.a6 (.d9 s) k
 |_=> .j1
noncomputable def aMD:G->Option V
 | .i4 v=>aA v
 |_=>aC
def Yy(b:cP)(a:aX)(k:Co):Co:=hM (uY a) ((jM (key a) b).elim .j1 λc=>match Ee c with
 |true=>((rX (key a) oY).bind aMD).elim .j1 λv=> .a6 v k
 |false=> .a0 (nG (key a)<|eD b) k)
def Cj(b a:cP):List (Option Nat):=(eD a).map λp=>match p.2 with
 | .free=>aA<|nG (key p.1)<|eD b
 |_=>aC
noncomputable def Nz:iL->Bool
 | .cell=>aB
 | .free=>aB
 |_=>aI
def CX(b a:cP):Bool:=a.all λp=>match Po p.2 with
 |true=>uY p.1&&(jM (key p.1) b).elim aI Nz
 |false=>aB
def RU(b:cP)(a:aX)(k:Co):Co:=(jM (key a) b).elim .j1 λc=>hM (DI c&&uY a)<|.b9 (nG (key a)<|eD b) k
def XS(E:aT->Co->Co)(t:aT)(k:Co):Co:=(MR t).elim .j1 λq=>E q.1.1<|E q.1.2.1<|.r7 k
def RV(E:aT->Co->Co)(t:aT)(k:Co):Co:=(GS t).elim (XS E t k) λq=>hM (fX q.1.2.1)<|E q.1.1<|.n8 (key q.1.2.1) k
def aPF(E F:aT->Co->Co)(t:aT)(k:Co):Co:=(Gc t).elim (RV E t k) λq=> .un q.1.1.length (kD F q.1.1 k)
def cA(E:aT->Co->Co)(a:cP):Nat->aT->Co->Co
 |0,_,_=> .j1
 |n+1,t,k=>(zQ t).elim (aPF E (cA E a n) t k) λq=>RU a q.1.1 k
noncomputable def Ae(T:aT->Co->Co->Co):List aT->Co->Co
 |[],k=>k
 |c::r,k=>T c (Ae T r k) .n9
def Bx(E:aT->Co->Co)(T:aT->Co->Co->Co)(b:cP)(a:aT):List BJ->Co
 |[]=>E a .k8
 |⟨t,d,c,_⟩::r=>Bm E b t d λI=> .v7 I (cA E b 3 t<|Ae T c<|Bx E T b a r)
mutual
def cE(f:cP):Nat->aT->Co->Co
 |0,_,_=> .j1
 |n+1,e,k=>match e with
  | .Constant c _ _=>Xl c k
  | .Name F _=>Yy f F k
  | .BoolOp j h _=> .j2 (match j with| .Or=>LY (cE f n) h| .And=>PC (cE f n) h) k
  | .BinOp l j r _=>cE f n l<|cE f n r<|.j0 j k
  | .UnaryOp j x _=>(match j with
   | .Not=>cE f n x<|.M1 k
   | .USub=>cE f n x<|.v1 k
   |_=> .j1)
  | .IfExp t b o _=> .j2 (cT f n t (cE f n b .b8)<|cE f n o .b8) k
  | .Dict q h g=>hM (jV q.length 15&&q.all (·.isSome)&&bZ q.length h.length)<|IY (cE f n) q h<|.b7 q.length (mu (!oy.contains g.line) k)
  | .List p g=>kD (cE f n) p<|.a7 p.length (mu (p.isEmpty&&aLX.contains g.line) k)
  | .Tuple p _ _=>kD (cE f n) p<|.a8 p.length k
  | .ListComp B s d g=>(match s with
   |⟨t,E,A,a⟩::m=>hM (a==0&&(m.all λc=>c.is_async==0)&&CV d&&CX f d.names)<|Bm (cE f n) f t E λI=> .j8 (Cj f d.names) I (cA (cE d.names n) d.names 3 t<|Ae (cT d.names n) A<|Bx (cE d.names n) (cT d.names n) d.names B m) (mu (aLR.contains g.line) k)
   |[]=> .j1)
  | .Compare l w C _=>(match w with
   |[j]=>(match C with|[r]=>hM (!vX r) (cE f n l<|cE f n r<|.f6 j k)|_=> .j1)
   |[j,y]=>(match C with|[r,D]=>hM (!vX D) (.j2 (cE f n l<|cE f n r<|.I5 j (cE f n D<|.f6 y .b8)) k)|_=> .j1)
   |_=> .j1)
  | .Call u v z g=>(match z with
   |[]=>Wr (cE f n) f u v g k
   |_=> .j1)
  | .Attribute o a _=>hM (fX a&&FX o)<|cE f n o<|.i6 (key a) k
  | .Subscript o i _=>(match GX i with
   |some c=>cE f n o<|.v0 c k
   |none=>cE f n o<|cE f n i<|.e7 k)
  | .JoinedStr h _=>hM (jV 2 h.length&&jV h.length 15)<|vM (Hc<|cE f n) h<|.D6 h.length k
  |_=> .j1
def cT(c:cP):Nat->aT->Co->Co->Co
 |0,_,_,_=> .j1
 |n+1,e,a,b=>match e with
  | .UnaryOp .Not x _=>cT c n x b a
  | .BoolOp f d _=> .j2 (match f with| .And=>NH (cT c n) d| .Or=>PI (cT c n) d) (.br a b)
  | .IfExp t x y _=> .j2 (cT c n t (cT c n x Fx GK)<|cT c n y Fx GK) (.br a b)
  |e=>cE c n e<|.br a b
end
def cS(a:cP):Nat->List kW->Co
 |0,_=> .j1
 |n+1,[]=> .e9
 |n+1,s::r=>match s with
  | .Expr e _=>hM (Fz e).isNone<|cE a 10 e<|.l4 (cS a n r)
  | .Pass _=>cS a n r
  | .Return v _=>(match v with
   |none=> .a6 .h9 .b8
   |some e=>cE a 10 e .b8)
  | .Assign c e _=>(match c with
   |[t]=>hM (oP t&&((Fz e).isNone||(PM e).isSome)&&Jo t e)<|cE a 10 e<|cA (cE a 10) a 3 t<|cS a n r
   |_=> .j1)
  | .If t b o _=>(match r with
   |[]=>cT a 10 t (cS a n b)<|cS a n o
   |_=> .i5 (cT a 10 t (cS a n b)<|cS a n o) (cS a n r))
  | .For t d b e _=>hM e.isEmpty<|Bm (cE a 10) a t d λI=> .fr I (cA (cE a 10) a 3 t<|cS a n b) (cS a n r)
  | .While t b e _=>hM e.isEmpty<|.E5 (cT a 10 t (cS a n b) .r4) (cS a n r)
  |_=> .j1
structure Fi where
 J4:Co
 np:Nat
 m:Nat
 w8:Bool
def OC(b:Nat)(a:Fn):Co:=match NA a.A4 with
 |some p=>(match FH b with
  |some g=>hM ((jM 65477030642 a.i0).elim aI Ee&&((jM 16122762859770605535 a.i0).elim aI Po&&p.1.all λe=>(zQ e).isSome))<|kD (cE a.i0 10) p.1<|.i7 g p.1.length (cS a.i0 40 p.2)
  |none=> .j1)
 |none=>cS a.i0 40 a.A4
def cB(a:Nat):Option Fi:=match Jp a with
 |some b=>aA ⟨OC a b,b.r6.length,(eD b.i0).length,Se.contains a⟩
 |none=>aC
noncomputable def zX(f:V->Option V):List V->Option (List V)
 |[]=>aA []
 |v::r=>(f v).bind λa=>(zX f r).map λb=>a::b
noncomputable def Bi(f:V->Option V):List (V×V)->Option (List<|V×V)
 |[]=>aA []
 |p::r=>(f p.2).bind λa=>(Bi f r).map λb=>(p.1,a)::b
def gG(u:aH)(n:Nat):Nat->V->Option V
 |0,_=>aC
 |f+1,v=>match v with
  | .a9 p=>(match mX p n with
   |true=>aA<|.a9 p
   |false=>(match u[p]? with
    |some (.a7 l)=>(zX (gG u n f) l).map .a7
    |some (.b7 l)=>(Bi (gG u n f) l).map .b7
    |_=>aC))
  | .a8 l=>(zX (gG u n f) l).map .a8
  | .a7 l=>(zX (gG u n f) l).map .a7
  | .b7 l=>(Bi (gG u n f) l).map .b7
  |v=>aA v
noncomputable def JP(a:aH)(Q:V->aH->Prop):V->aH->Prop:=λv u=>(∃ext,u=a++ext)/\∃w,gG u a.length 50 v=aA w/\Q w a
noncomputable def KH(b:Bool)(a:aH)(Q:V->aH->Prop):V->aH->Prop:=match b with
 |true=>JP a Q
 |false=>Q
noncomputable def Ft(b:Bool)(a:aH)(Q:V->aH->Prop):PF:=λc d u=>match c with
 | .b8 v=>KH b a Q v u
 | .e9=>KH b a Q .h9 u
 | .r4=>False
noncomputable def CC(m:Nat):List V->Lc
 |[]=>KL m aC
 |v::r=>aA v::CC (m-1) r
noncomputable def WR:Nat->cR
 |0,_,_,_,_=>False
 |n+1,H,E,u,Q=>match cB H with
  |some f=>wG (bZ E.length f.np)<|aS (WR n) f.J4 (Ft f.w8 u Q) [] (CC f.m E) u
  |none=>False
inductive WC (n H:Nat) (E:List V) (u:aH) (Q:V->aH->Prop):Prop
 |of (h:WR n H E u Q)
theorem UE(n:Nat):WC n=WR n:=funext λa=>funext λa=>funext λa=>funext λa=>propext ⟨λ⟨h⟩=>h,.of⟩
section
variable{C:cR}{n H p:Nat}{k:Co}{K:PF}{R:PR}{z E:List V}{L:Lc}{u:aH}{Q:V->aH->Prop}{v x i:V}{P I:Prop}
theorem wc{b m:Nat}{a:Bool}(e:cB H=aA ⟨k,b,m,a⟩)(c:bZ E.length b=aB)(h:aS (WC n) k (Ft a u Q) [] (CC m E) u):WC (n+1) H E u Q:=by
 rw[UE]at h;refine .of ?_;show(match cB H with|some f=>_|none=>False)
 rw[e];exact .of c h
theorem cL{a c:Nat}{b:List (Nat×V)}(h:u[p]? =aA (.g9 c b))(e:(match rP c a with|true=>lZ a b|false=>aC)=aA v)(q:R (v::z) L u):wP (HG a (.a9 p) u) R z L u:=
 wP.of (by dsimp only[HG];rw[h];exact e) q
theorem bG{m c f:Nat}{a:List (Nat×V)}(h:u[p]? =aA (.g9 c a))(e:tC c m=aA f)(q:R (.a5 (.ofNat f)::z) L u):wP (vN m (.a9 p) u) R z L u:=
 wP.of (by dsimp only[vN];rw[h];dsimp only;rw[e];rfl) q
theorem lR{m:Nat}{l:List V}(h:u[p]? =aA (.a7 l))(e:DQ m=aA v)(q:R (v::z) L u):wP (vN m (.a9 p) u) R z L u:=
 wP.of (by dsimp only[vN];rw[h];exact e) q
theorem aG2{m:Nat}{l:List (V×V)}(h:u[p]? =aA (.b7 l))(e:gI (bZ m 3797748) (.a5 (.negSucc 4))=aA v)(q:R (v::z) L u):wP (vN m (.a9 p) u) R z L u:=
 wP.of (by dsimp only[vN];rw[h];exact e) q
theorem kO{l:List V}(h:u[p]? =aA (.a7 l)):eK (.a9 p) u=aA (.a7 l):=by dsimp only[eK];rw[h]
theorem iJ{l:List (V×V)}(h:u[p]? =aA (.b7 l)):eK (.a9 p) u=aA (.b7 l):=by dsimp only[eK];rw[h]
theorem Bn{a:V}(h:eK x u=aA a)(e:qK a i=aA v)(q:R (v::z) L u):wP (rQ x i u) R z L u:=
 wP.of (by unfold rQ;rw[h];exact e) q
theorem pU{f:Nat}{a:V}(h:eK x u=aA a)(e:Mk f a=aA v)(q:R (v::z) L u):wP (iX f x u) R z L u:=
 wP.of (by unfold iX;rw[h];exact e) q
theorem jG{o:qW}{a c:V}{b:Bool}(h:eK x u=aA a)(d:eK i u=aA c)(e:Mo o a c=aA b):dZ o x i u=aA b:=by unfold dZ;rw[h,d];exact e
theorem aH0{o:KJ}{a c:V}(h:eK x u=aA a)(b:eK i u=aA c)(e:Km o a c=aA v):nL o x i u=aA v:=by unfold nL;rw[h,b];exact e
theorem DT{a c:Nat}{d:List (Nat×V)}{b:aH}(h:u[p]? =aA (.g9 c d))(e:(rP c a&&mX d.length 100)=aB)(f:u.set p (.g9 c (xH a v d))=b)(q:R z L b):wS (GZ a (.a9 p) v u) R z L:=
 wS.of (by dsimp only[GZ];rw[h];dsimp only;rw[e,f]) q
theorem tX{l:List (V×V)}{a:aH}(h:u[p]? =aA (.b7 l))(e:(dY i l&&aQ (l.length<cF))=aB)(b:u.set p (.b7 (gV i v l))=a)(q:R z L a):wS (El (.a9 p) i v u) R z L:=
 wS.of (by dsimp only[El];rw[h];dsimp only;rw[e,b]) q
theorem HL{f:Nat}{l:List V}{a:aH}(h:u[p]? =aA (.a7 l))(b:f≠4)(e:Il f p l x u=aA (v,a))(q:R (v::z) L a):wU (yP f (.a9 p) [x] u) R z L:=
 .of (by delta yP yP.match_4;rw[dif_neg b];dsimp only;rw[h];exact e) q
theorem oQ{l:List V}{a:aH}(h:u[p]? =aA (.a7 l))(e:aQ (l.length<cF)=aB)(b:u.set p (.a7 (l++[x]))=a)(q:R (.h9::z) L a):wU (yP 0 (.a9 p) [x] u) R z L:=
 HL h (λh=>nomatch h) (by show(match aQ (l.length<cF)with|true=>aA (V.h9,u.set p<|.a7 (l++[x]))|false=>aC)=_;rw[e,b]) q
theorem Tr{l r:List V}{a:aH}(h:u[p]? =aA (.a7 l))(b:(eK x u).bind nJ=aA r)(e:aQ ((l++r).length<=cF)=aB)(c:u.set p (.a7 (l++r))=a)(q:R (.h9::z) L a):wU (yP 1 (.a9 p) [x] u) R z L:=
 HL h (λh=>nomatch h) (by show(((eK x u).bind nJ).bind λr=>(match aQ ((l++r).length<=cF)with|true=>aA (V.h9,u.set p<|.a7 (l++r))|false=>aC))=_;rw[b];show(match aQ ((l++r).length<=cF)with|true=>aA (V.h9,u.set p<|.a7 (l++r))|false=>aC)=_;rw[e,c]) q
theorem XK{i:Nat}{l:List V}{a:aH}(h:u[p]? =aA (.a7 l))(b:l[i]? =aA x)(c:u.set p (.a7 (l.eraseIdx i))=a)(q:R (x::z) L a):wU (yP 2 (.a9 p) [.a5 (.ofNat i)] u) R z L:=
 HL h (λh=>nomatch h) (by show l[i]?.map (λx=>(x,u.set p<|.a7 (l.eraseIdx i)))=_;rw[b,←c];rfl) q
theorem dL{o:qW}{b:Bool}{c d:Co}(h:dZ o x i u=aA b)(t:b=aB->aS C c K z L u)(f:b=aI->aS C d K z L u):wP (xR<|dZ o x i u) (aS C (.br c d) K) z L u:=wP.of (v:= .e8 b) (by rw[h];rfl) (wB.of (o:=yC (.e8 b) u) rfl t f)
theorem qL{o:qW}{b:Bool}(h:dZ o x i u=aA b)(q:R (.e8 b::z) L u):wP (xR<|dZ o x i u) R z L u:=wP.of (v:= .e8 b) (by rw[h];rfl) q
theorem Bs{l:List V}(h:u[p]? =aA (.a7 l)):tA (.a9 p) u=aA (.a7 p,l):=by dsimp only[tA];rw[h]
theorem MV{l:List (V×V)}(h:u[p]? =aA (.b7 l))(e:gE l=aB):tA (.a9 p) u=aA (.b7 p,l.map (·.1)):=by dsimp only[tA];rw[h];dsimp only;rw[e]
variable{B:Cu}{F:Sr}{D:List V}{A:Lc->aH->Prop}
theorem Zc(J:Nat->Lc->aH->Prop)(c:∀i x L u (a:PF),D[i]? =aA x->J i L u->(∀L u,lM F D u->J (i+1) L u->a .e9 L u)->(∀v L u,lM F D u->K (.b8 v) L u->a (.b8 v) L u)->B x a L u)(b:∀L u,J D.length L u->A L u):
  ∀(l:List V) (i:Nat) (L:Lc) (u:aH),D.drop i=l->i+l.length=D.length->J i L u->Jg B F D A K l L u
 |[],i,L,u,_,e,h=>b L u<|e▸h
 |x::r,i,L,u,e,d,h=>c i x L u _ (by rw[←List.head?_drop,e];rfl) h
  (λL u s h=>⟨s,Zc J c b r (i+1) L u (by rw[←ZQ,e];rfl) ((KM i r.length).trans d) h⟩)
  λv L u s h=>⟨s,h⟩
theorem aIB(J:Nat->Lc->aH->Prop)(d:J 0 L u)(c:∀i x L u (a:PF),D[i]? =aA x->J i L u->(∀L u,lM F D u->J (i+1) L u->a .e9 L u)->(∀v L u,lM F D u->K (.b8 v) L u->a (.b8 v) L u)->B x a L u)(b:∀L u,J D.length L u->A L u):
  Da B F D A K L u:= .of (Zc J c b D 0 L u rfl (jH _) d)
theorem gR{r f:Type}{g:r->V}{l:List r}(k:Nat)(d:Nat->f->(Nat->Option V)->Lc)(c:Nat->f->aH)(J:Nat->f->Prop)(x:f)(P:L=d 0 x λj=>lg (j+k) L)(N:u=c 0 x)(Q:J 0 x)
  (w:∀i a x o (q:PF),l[i]? =aA a->J i x->(∀b L u,lM F (l.map g) u->L=d (i+1) b (λj=>lg (j+k) L)->u=c (i+1) b->J (i+1) b->q .e9 L u)->B (g a) q (d i x o) (c i x))
  (v:∀x o,J l.length x->A (d l.length x o) (c l.length x)):Da B F (l.map g) A K L u:=
 aIB (λi L u=>∃x o,L=d i x o/\u=c i x/\J i x) ⟨x,_,P,N,Q⟩ (λi x L u q t ⟨y,o,p,n,m⟩ C T=>by rw[jW]at t;obtain⟨a,M,e⟩:=EF.mp t;rw[p,n,←e];exact w i a y o q M m λb L u s S R h=>C L u s ⟨b,_,S,R,h⟩) λL u ⟨y,o,p,n,m⟩=>by rw[bP]at p n m;rw[p,n];exact v y o m
theorem JE{b:Type}{B:PF->Lc->aH->Prop}(k:Nat)(d:b->(Nat->Option V)->Lc)(c:b->aH)(J:Nat->b->Prop)(m:Nat)(x:b)(t:L=d x λj=>lg (j+k) L)(s:u=c x)(v:J m x)(f:m<1000)
  (r:∀n x o (i:PF),J n x->(∀l a L u,l<n->L=d a (λj=>lg (j+k) L)->u=c a->J l a->i .e9 L u)->(∀L u,A L u->i .r4 L u)->B i (d x o) (c x)):GY B A K L u:=by
 have:∀n m x o,m<n->J m x->Gb B A K n (d x o) (c x):=by
  intro n;induction n with
  |zero=>exactλm e e h=>aZ h<|uP m
  |succ n q=>exactλm x o f g=>r m x o _ g (λp a L u h y w g=>by show Gb B A K n L u;rw[y,w];exact q p a _ (cO h<|gW f) g) λe e h=>h
 rw[t,s];exact .of (this 1000 m x _ f v)
noncomputable abbrev Ky(K:PF)(L:Lc)(u:aH)(l:List V):Prop:=∀a,(h:res L a=L:=by exact rfl)->K (.b8 (.a7 l)) a u
theorem VJ{c:Type}(g:c->V)(f:c->List V):∀{l:List c},(∀a∈l,∀K:PF,Ky K L u (f a)->B (g a) K L u)->FG B L u (l.map g) (l.map f)
 |[],_=>rfl
 |a::r,h=>⟨h a (.head _) _ λi e=>⟨rfl,rfl,e⟩,VJ g f λb d=>h b<|.tail _ d⟩
theorem eE{P:List V->Prop}{b:Type}{l:List b}(g:b->V)(f:b->List V)(h:∀a∈l,∀K:PF,Ky K L u (f a)->B (g a) K L u)(q:P (l.flatMap f)):xZ B L u (l.map g) P:= .of (VJ g f h) q
end
noncomputable def vS(s:String):V:= .d9 (cD s)
noncomputable def ya:Co:=(.a0 0 (.j8 [aC] .i4 (.b9 0 (.a0 0 (.a6 (.e8 aB) (.a8 2 .k8)))) (.p1 3 (.p1 1 (.p1 4 .b8)))))
noncomputable def aN4:Co:=(.a0 0 (.a0 1 (.j0 .Add (.j9 999 1 .b8))))
noncomputable def oq:Co:=(.a0 1 (.j8 [aC] .i4 (.b9 0 (.a0 0 (.a6 (.e8 aB) (.a8 2 .k8)))) (.p1 3 (.b9 2 (.a0 0 (.j8 [aC,aA 2] .i4 (.b9 0 (.a0 0 (.a0 1 (.f6 .NotIn (.br (.a0 0 .k8) .n9))))) (.p1 4 .b8)))))))
noncomputable def aOK:Co:=(.a0 0 (.a0 1 (.j9 1199 2 (.a8 0 (.f6 .Eq .b8)))))
noncomputable def aPD:Co:=(.a0 0 (.j8 [aC,aC,aA 1] .i4 (.b9 0 (.a0 2 (.v7 .i4 (.b9 1 (.a0 0 (.a0 1 (.j0 .Add .k8))))))) (.p1 4 .b8)))
noncomputable def qg:Co:=(.a0 1 (.p1 4 (.a0 0 (.n8 64092861171 (.b7 0 (.j6 (.a0 0 (.n8 1050784625686899 (.a0 0 (.i6 64092861171 (.fr .i4 (.b9 2 (.i5 (.a0 2 (.a0 0 (.i6 1050784625686899 (.f6 .In (.br .j1 .e9))))) (.a0 0 (.i6 1050784625686899 (.p1 0 (.a0 0 (.i6 1050784625686899 (.a0 2 (.r7 .e9))))))))) .e9)))))))))))
noncomputable def xl:Co:=(.a0 0 (.i6 64092861171 (.p1 0 .b8)))
noncomputable def vj:Co:=(.a0 1 (.a0 0 (.n8 138410163366050277 (.a7 0 (.j6 (.a0 0 (.n8 7795344388723 (.b7 0 (.j6 (.a0 0 (.n8 1050784625686899 .e9)))))))))))
noncomputable def aB5:Co:=(.i5 (.a0 1 (.a0 0 (.i6 1050784625686899 (.f6 .In (.br .j1 .e9))))) (.i5 (.j2 (.a0 2 (.A7 0 (.br (.a0 2 (.A7 1 (.br (.a6 (.e8 aB) .b8) (.a0 2 (.a6 (.a5 1) (.f6 .Lt (.br (.a6 (.e8 aB) .b8) (.a6 (.e8 aI) .b8)))))))) (.a6 (.e8 aB) .b8)))) (.br .j1 .e9)) (.a0 0 (.f9 139479059917501172 (.a0 1 (.a0 2 (.a0 3 (.f8 3 (.l4 (.a0 0 (.f9 139479059917501172 (.a0 1 (.a0 2 (.a0 4 (.f8 3 (.l4 (.i5 (.a0 3 (.a0 4 (.j9 1299 2 (.br .e9 .j1)))) (.a0 0 (.i6 7795344388723 (.p1 0 (.a0 0 (.i6 1050784625686899 (.a0 1 (.r7 (.a0 0 (.i6 7795344388723 (.f9 7761242453860 (.a0 1 (.a0 2 (.a0 3 (.a0 4 (.a8 4 (.f8 1 (.l4 (.a0 0 (.i6 7795344388723 (.p1 0 (.a6 (.a5 1) (.j0 .Sub .b8)))))))))))))))))))))))))))))))))))))))
noncomputable def aBS:Co:=(.i5 (.a0 3 (.A7 2 (.br .e9 .j1))) (.a0 3 (.fr .i4 (.b9 4 (.i5 (.j2 (.a0 4 (.A7 2 (.br (.a0 4 (.p1 0 (.a0 2 (.f6 .NotEq (.br (.a6 (.e8 aB) .b8) (.a6 (.e8 aI) .b8)))))) (.a6 (.e8 aB) .b8)))) (.br .j1 .e9)) (.a0 4 (.fr .i4 (.b9 5 (.j2 (.a0 5 (.A7 0 (.br (.a0 5 (.A7 1 (.br (.a6 (.e8 aB) .b8) (.j2 (.a6 (.a5 0) (.a0 5 (.I5 .LtE (.a0 0 (.i6 138410163366050277 (.f9 511343973 (.f8 0 (.f6 .Lt .b8)))))))) (.br (.a6 (.e8 aI) .b8) (.a6 (.e8 aB) .b8)))))) (.a6 (.e8 aB) .b8)))) (.br .j1 .e9))) .e9)))) (.a6 (.a5 1) (.a0 3 (.p1 0 (.fr .r2 (.b9 6 (.a0 3 (.a0 6 (.a6 (.a5 1) (.j0 .Sub (.e7 (.a0 3 (.a0 6 (.e7 (.f6 .Lt (.br .e9 .j1))))))))))) .e9)))))))
noncomputable def aLL:Co:=(.a0 0 (.f9 3699300 (.a0 1 (.a0 2 (.a0 3 (.a0 3 (.f8 4 .b8)))))))
noncomputable def wq:Co:=(.a0 0 (.i6 7795344388723 (.a0 1 (.e7 .b8))))
noncomputable def aI1:Co:=(.a0 0 (.i6 7795344388723 (.p1 0 .b8)))
noncomputable def ik:Co:=(.a0 1 (.a0 0 (.n8 2248903923324291953395 (.j2 (.a0 2 (.a6 (.a5 0) (.e7 (.a6 (.a5 0) (.f6 .GtE (.br (.a0 2 (.a6 (.a5 0) (.e7 .b8))) .j1)))))) (.a0 0 (.n8 1006252523878004 (.b7 0 (.j6 (.a0 0 (.n8 513537636 (.a0 2 (.a6 (.a5 1) (.e7 (.fr .i4 (.un 3 (.b9 3 (.b9 4 (.b9 5 (.a0 0 (.f9 513308133 (.a0 3 (.a0 4 (.a0 5 (.f8 3 (.l4 .e9))))))))))) (.b7 0 (.j6 (.a0 0 (.n8 1055077183566564 (.a0 1 (.f9 8242790496627 (.f8 0 (.fr .i4 (.un 2 (.b9 6 (.b9 5 (.i5 (.a0 1 (.f9 4012016 (.a0 5 (.f8 1 (.a0 5 (.f6 .NotEq (.br .j1 .e9))))))) (.a6 (.e8 aB) (.a0 0 (.i6 1055077183566564 (.a0 5 (.r7 .e9))))))))) .e9))))))))))))))))))))))
def aET:Co:=(.i5 (.a0 3 (.a6 (vS "int") (.a6 (vS "Int") (.a8 2 (.f6 .In (.br .j1 .e9)))))) (.i5 (.a0 3 (.a0 0 (.i6 2248903923324291953395 (.f9 64092861171 (.f8 0 (.f6 .NotIn (.br .j1 .e9))))))) (.i5 (.a0 0 (.i6 2248903923324291953395 (.f9 4012016 (.a0 3 (.f8 1 (.a6 (vS "") (.f6 .Eq (.br .j1 .e9)))))))) (.i5 (.a0 3 (.a0 0 (.i6 513537636 (.f6 .In (.br .j1 .e9))))) (.i5 (.a0 2 (.a6 (.a5 0) (.f6 .Lt (.br .j1 .e9)))) (.a0 1 (.a0 2 (.a8 2 (.a0 0 (.i6 513537636 (.a0 3 (.r7 .e9))))))))))))
def aAM:Co:=(.a0 0 (.i6 2248903923324291953395 (.f9 128250673238946542 (.a0 1 (.f8 1 (.b9 2 (.i5 (.j2 (.a0 0 (.i6 2248903923324291953395 (.f9 276145435923965525127668 (.a0 1 (.f8 1 (.br (.a0 2 (.p1 0 (.a6 (.a5 0) (.f6 .Gt (.br (.a6 (.e8 aB) .b8) (.a6 (.e8 aI) .b8)))))) (.a6 (.e8 aI) .b8))))))) (.br (.a0 2 (.j8 [aC,aA 0] .i4 (.b9 0 (.a0 1 (.i6 2248903923324291953395 (.f9 498955892 (.a0 0 (.f8 1 (.a6 (vS "one") (.f6 .NotEq (.br (.a0 0 .k8) .n9))))))))) (.a7 0 (.f6 .Eq (.br (.a0 2 (.p1 0 .b8)) .e9))))) .e9)) (.a0 0 (.i6 1006252523878004 .b8)))))))))
def aF8:Co:=(.a0 0 (.i6 513537636 (.f9 3797748 (.a0 1 (.a6 (.e8 aI) (.a0 0 (.f9 17719367717464160242 (.a0 1 (.f8 1 (.a8 2 (.f8 2 (.un 2 (.b9 2 (.b9 3 (.a0 0 (.i6 2248903923324291953395 (.f9 498955892 (.a0 1 (.f8 1 (.b9 4 (.i5 (.a0 4 (.a6 (vS "one") (.f6 .Eq (.br (.i5 (.j2 (.a0 1 (.a0 0 (.i6 513537636 (.f6 .In (.br (.a0 3 (.a6 (.a5 1) (.f6 .NotEq (.br (.a6 (.e8 aB) .b8) (.a6 (.e8 aI) .b8))))) (.a6 (.e8 aI) .b8)))))) (.br .j1 .e9)) (.a6 (.e8 aB) (.a6 (.a5 1) (.a8 2 .b8)))) .e9)))) (.i5 (.a0 4 (.a6 (vS "lone") (.f6 .Eq (.br (.i5 (.j2 (.a0 1 (.a0 0 (.i6 513537636 (.f6 .In (.br (.a0 2 (.br (.a0 3 (.a6 (.a5 1) (.f6 .Gt (.br (.a6 (.e8 aB) .b8) (.a6 (.e8 aI) .b8))))) (.a6 (.e8 aI) .b8))) (.a6 (.e8 aI) .b8)))))) (.br .j1 .e9)) (.a0 3 (.a6 (.a5 1) (.I3 (.b9 3 .e9))))) .e9)))) (.j2 (.a0 2 (.I8 (.a0 1 (.a0 0 (.i6 1055077183566564 (.f6 .In .b8)))))) (.a0 3 (.a8 2 .b8)))))))))))))))))))))))))
def mq:Co:=(.i5 (.j2 (.a0 1 (.a0 0 (.i6 513537636 (.f6 .NotIn (.br (.a6 (.e8 aB) .b8) (.a0 0 (.i6 2248903923324291953395 (.f9 4012016 (.a0 1 (.f8 1 (.a0 1 (.f6 .Eq (.br (.a6 (.e8 aB) .b8) (.a6 (.e8 aI) .b8)))))))))))))) (.br (.a6 .h9 .b8) .e9)) (.a0 0 (.i6 513537636 (.a0 1 (.e7 (.un 2 (.b9 3 (.b9 4 (.j2 (.a0 3 (.br (.a6 (vS "eq") .b8) (.a6 (vS "le") .b8))) (.a6 (vS "count") (.a6 (vS "rel") (.a0 2 (.a8 2 (.a8 2 (.a6 (vS "num") (.a0 4 (.a8 2 (.a8 3 .b8))))))))))))))))))
noncomputable def zx:Co:=(.a0 1 (.a0 0 (.n8 2248903923324291953395 (.a0 2 (.a0 0 (.n8 63304348275 (.a0 3 (.a0 0 (.n8 496761459 .e9)))))))))
def vo:Co:=(.a0 0 (.i6 2248903923324291953395 (.f9 4012016 (.a0 1 (.f8 1 (.b9 2 (.i5 (.a0 2 (.a6 (vS "") (.f6 .NotEq (.br (.a0 0 (.i6 496761459 (.a0 2 (.e7 .b8)))) .e9)))) (.a8 0 (.b9 3 (.a0 0 (.i6 2248903923324291953395 (.f9 8381059922291 (.a0 1 (.f8 1 (.fr .i4 (.b9 4 (.a0 3 (.a0 0 (.f9 8239559013607 (.a0 4 (.f8 1 (.j9 1099 2 (.b9 3 .e9)))))))) (.a0 3 .b8))))))))))))))))
noncomputable def aMJ:Co:=(.a0 1 (.j8 [aC,aA 0] .i4 (.b9 0 (.a0 1 (.f9 8239559013607 (.a0 0 (.f8 1 .k8))))) (.a6 (.a5 1) (.a8 2 (.un 2 (.b9 2 (.b9 3 (.a0 2 (.fr .i4 (.b9 4 (.a0 3 (.a0 4 (.p1 0 (.j0 .Mult (.b9 3 .e9)))))) (.i5 (.a0 3 (.a6 (.a5 100000) (.f6 .Gt (.br .j1 .e9)))) (.a0 2 (.a6 (.a5 0) (.e7 (.b9 5 (.a0 2 (.v0 (.lo 1) (.fr .i4 (.b9 4 (.a0 5 (.a0 4 (.j9 1399 2 (.b9 5 .e9))))) (.a0 5 .b8))))))))))))))))))
noncomputable def zy:Co:=(.a0 0 (.i6 63304348275 (.f9 2128998952246600955748 (.a0 1 (.a0 2 (.f8 2 (.a8 0 (.a8 2 (.un 2 (.b9 3 (.b9 4 (.a0 3 (.a6 (.a5 2) (.e7 (.fr .i4 (.b9 5 (.a0 4 (.a0 0 (.f9 17279607116371162862 (.a0 5 (.f8 1 (.j9 1099 2 (.b9 4 .e9)))))))) (.a0 3 (.a6 (.a5 1) (.e7 (.a0 4 (.a8 2 .b8))))))))))))))))))))
noncomputable def aK3:Co:=(.a0 1 (.a0 0 (.n8 2248903923324291953395 (.a0 2 (.a0 0 (.n8 63304348275 .e9))))))
def js:Co:=(.a7 0 (.j6 (.b7 0 (.j6 (.b7 0 (.j6 (.a8 3 (.un 3 (.b9 2 (.b9 3 (.b9 4 (.a0 0 (.i6 2248903923324291953395 (.f9 64092861171 (.f8 0 (.fr .i4 (.b9 5 (.a0 0 (.i6 2248903923324291953395 (.f9 4012016 (.a0 5 (.f8 1 (.a0 5 (.f6 .Eq (.br (.a0 1 (.f9 8138939430886 (.a0 5 (.f8 1 (.un 2 (.b9 6 (.b9 7 (.i5 (.a0 2 (.p1 0 (.a0 7 (.j0 .Add (.a6 (.a5 500) (.f6 .Gt (.br .j1 .e9))))))) (.a0 7 (.j8 [aC,aA 2] .r1 (.b9 0 (.a0 1 (.p1 0 (.a0 0 (.j0 .Add (.a8 1 .k8)))))) (.p1 4 (.a0 3 (.a0 5 (.r7 (.j2 (.a0 6 (.br (.a0 3 (.a0 5 (.e7 .b8))) (.a8 0 .b8))) (.a0 4 (.a0 5 (.r7 (.a0 2 (.f9 7900837279588 (.a0 7 (.j8 [aC,aA 5] .r1 (.b9 0 (.a0 1 (.p1 8 (.a6 (vS "$") (.a0 0 (.p1 8 (.D6 3 .k8))))))) (.f8 1 (.l4 .e9)))))))))))))))))))))))) .e9))))))))) (.a0 2 (.a0 3 (.a0 4 (.a8 3 .b8))))))))))))))))))))
def jy:Co:=(.a0 0 (.i6 2248903923324291953395 (.a0 1 (.u0 22 2 (.a7 0 (.j6 (.a8 2 (.un 2 (.b9 2 (.b9 3 (.a0 0 (.f9 127177756348250086 (.a0 2 (.f8 1 (.un 3 (.b9 4 (.b9 5 (.b9 6 (.a0 4 (.u0 15 1 (.u0 16 1 (.a0 0 (.i6 2248903923324291953395 (.a0 0 (.i6 63304348275 (.a0 5 (.u0 23 3 (.a8 2 (.un 2 (.b9 7 (.b9 8 (.a0 0 (.i6 2248903923324291953395 (.f9 64092861171 (.f8 0 (.fr .i4 (.b9 9 (.a0 7 (.f9 3699300 (.a0 9 (.a6 (.a5 1) (.a0 6 (.f9 3797748 (.a0 9 (.a8 0 (.f8 2 (.a0 8 (.f9 8239559013607 (.a0 9 (.f8 1 (.f8 4 (.b9 10 (.a0 2 (.f9 2129438621145853589478 (.a0 9 (.a0 10 (.f8 2 (.b9 11 (.a0 11 (.a6 .h9 (.f6 .IsNot (.br (.a0 3 (.f9 7761242453860 (.a6 (vS "scope ") (.a0 9 (.p1 8 (.D6 2 (.a0 11 (.a8 2 (.f8 1 (.l4 .e9)))))))))) .e9)))))))))))))))))))))))))) (.a0 0 (.i6 2248903923324291953395 (.f9 7931139142259 (.f8 0 (.fr .i4 (.un 6 (.b9 12 (.b9 9 (.b9 13 (.b9 14 (.b9 15 (.b9 16 (.a0 8 (.f9 134996931389257316 (.a0 9 (.a0 12 (.f8 2 (.un 2 (.b9 17 (.b9 18 (.a0 7 (.f9 3699300 (.a0 9 (.p1 8 (.a6 (vS ".") (.a0 12 (.p1 8 (.D6 3 (.a0 17 (.a8 0 (.a0 18 (.f8 4 (.l4 .e9)))))))))))))))))))))))))))) (.a0 0 (.i6 2248903923324291953395 (.f9 8242790496627 (.f8 0 (.fr .i4 (.un 2 (.b9 19 (.b9 9 (.a0 5 (.a0 9 (.e7 (.b9 16 (.a0 7 (.f9 1011302067418745 (.a0 19 (.p1 8 (.a6 (vS "/next") (.D6 2 (.a6 (.a5 2) (.a0 16 (.p1 0 (.a6 (.a5 1) (.j0 .Sub (.j8 [aC,aA 16] .r1 (.b9 0 (.a0 1 (.a0 0 (.e7 (.a0 1 (.a0 0 (.a6 (.a5 1) (.j0 .Add (.e7 (.j0 .Add .k8)))))))))) (.p1 4 (.f8 3 (.l4 .e9)))))))))))))))))))))) (.a0 7 (.a0 7 (.i6 1050784625686899 (.p1 3 (.a0 3 (.a8 3 .b8))))))))))))))))))))))))))))))))))))))))))))))))))))
noncomputable def aG9:Co:=(.a0 1 (.a0 0 (.n8 2248903923324291953395 .e9)))
noncomputable def aOJ:Co:=(.j2 (.a0 1 (.a0 2 (.f6 .Eq (.I8 (.a0 2 (.a0 0 (.i6 2248903923324291953395 (.f9 60605332325 (.a0 1 (.f8 1 (.f6 .In .b8))))))))))) .b8)
def aFG:Co:=(.i5 (.a0 0 (.f9 131676410310374130 (.a0 1 (.a0 2 (.f8 2 (.br (.a0 1 .b8) .e9)))))) (.j2 (.a0 0 (.f9 131676410310374130 (.a0 2 (.a0 1 (.f8 2 (.br (.a0 2 .b8) (.a6 (vS "") .b8))))))) .b8))
def qt:Co:=(.a0 1 (.a0 2 (.j8 [aC,aC,aA 0] .J1 (.un 2 (.b9 0 (.b9 1 (.a0 2 (.f9 134412647272411890 (.a0 0 (.a0 1 (.f8 2 .k8)))))))) (.p1 4 (.b9 3 (.j2 (.a6 (vS "") (.a0 3 (.f6 .In (.br (.a6 .h9 .b8) (.a0 3 .b8))))) .b8))))))
noncomputable def aBP:Co:=(.a0 1 (.p1 2 (.b9 2 (.a0 2 (.j8 [aC,aA 2,aA 0] .i4 (.b9 0 (.a0 1 (.j8 [aC,aA 0,aA 2] .i4 (.b9 0 (.j2 (.a0 0 (.a0 1 (.f6 .NotEq (.br (.a0 2 (.f9 7829687334894 (.a0 1 (.a0 0 (.f8 2 (.a0 1 (.f6 .Eq (.br (.a6 (.e8 aB) .b8) (.a6 (.e8 aI) .b8))))))))) (.a6 (.e8 aI) .b8))))) (.br (.a0 0 .k8) .n9))) (.a7 0 (.f6 .Eq (.br (.a0 0 .k8) .n9)))))) (.p1 4 .b8))))))
def aKQ:Co:=(.i5 (.a0 0 (.i6 2248903923324291953395 (.f9 4012016 (.a0 1 (.f8 1 (.a6 (vS "") (.f6 .NotEq (.br (.a0 1 (.a8 1 (.a8 1 .b8))) .e9)))))))) (.a0 0 (.f9 64652604654 (.a0 0 (.i6 2248903923324291953395 (.f9 8381059922291 (.a0 1 (.f8 1 (.j8 [aC,aC,aA 0] .i4 (.b9 0 (.a0 2 (.f9 287859693749881953548147 (.a0 0 (.f8 1 (.v7 .i4 (.b9 1 (.a0 1 .k8)))))))) (.f8 1 .b8))))))))))
noncomputable def aGS:Co:=(.a0 0 (.i6 2248903923324291953395 (.f9 64092861171 (.f8 0 (.j8 [aC,aA 0] .i4 (.b9 0 (.a0 1 (.i6 2248903923324291953395 (.f9 4012016 (.a0 0 (.f8 1 (.a0 0 (.f6 .Eq (.br (.a0 0 .k8) .n9))))))))) .b8)))))
noncomputable def ng:Co:=(.a0 1 (.j8 [aC,aC,aA 2,aA 0] .i4 (.b9 0 (.a0 2 (.v7 .i4 (.b9 1 (.a0 3 (.f9 7829687334894 (.a0 0 (.a0 1 (.f8 2 .k8))))))))) (.b9 3 (.a0 0 (.f9 64652604654 (.a0 3 (.j8 [aC] .i4 (.b9 0 (.a0 0 (.a6 .h9 (.f6 .IsNot (.br (.a0 0 .k8) .n9))))) (.f8 1 .b8))))))))
def aBA:Co:=(.a0 0 (.f9 64652604654 (.a0 1 (.j8 [aC,aC,aA 2,aA 0] .i4 (.b9 0 (.a0 2 (.v7 .i4 (.b9 1 (.a0 3 (.f9 134412647272411890 (.a0 0 (.a6 (.a5 1) (.v1 (.e7 (.a0 1 (.a6 (.a5 0) (.e7 (.f8 2 (.a6 (vS "") (.f6 .NotEq (.br (.a0 0 (.v0 (.x5 1) (.a0 1 (.v0 (.lo 1) (.j0 .Add .k8))))) .n9))))))))))))))))) (.f8 1 .b8)))))
noncomputable def aIY:Co:=(.a0 0 (.f9 64652604654 (.a0 1 (.j8 [aC,aC,aA 2] .i4 (.b9 0 (.a0 2 (.v7 .i4 (.b9 1 (.a0 0 (.a0 1 (.j0 .Add .k8))))))) (.f8 1 .b8)))))
noncomputable def pn:Co:=(.a0 1 (.i7 3000 1 (.b7 0 (.j6 (.a0 0 (.n8 35643093460954271031439987 (.b7 0 (.j6 (.a0 0 (.n8 34272352658209873594102387 (.b7 0 (.j6 (.a0 0 (.n8 139479195766731763 .e9))))))))))))))
noncomputable def aNS:Co:=(.a6 (.e8 aB) (.a0 0 (.i6 139479195766731763 (.a0 1 (.a0 2 (.a8 2 (.r7 .e9)))))))
def aA3:Co:=(.a6 (vS "set") (.a6 (.a5 1) (.a0 0 (.f9 287859693749881953548147 (.a0 1 (.f8 1 (.a8 3 .b8)))))))
def aOQ:Co:=(.a6 (vS "this") (.a0 0 (.f9 137262198345594724 (.a0 1 (.f8 1 (.a6 (vS "this/") (.a6 (vS "sig") (.a0 1 (.a8 2 (.b7 2 .b8))))))))))
noncomputable def aHR:Co:=(.a0 0 (.i6 2248903923324291953395 (.f9 7931139142259 (.f8 0 (.j8 [aC,aA 1] .i4 (.b9 0 (.a0 0 (.a6 (.a5 0) (.e7 (.a0 1 (.f6 .Eq (.br (.a0 0 .k8) .n9))))))) .b8)))))
def aCA:Co:=(.a0 1 (.a0 2 (.a8 2 (.b9 3 (.i5 (.a0 3 (.a0 0 (.i6 35643093460954271031439987 (.f6 .NotIn (.br (.a0 0 (.f9 1010963601584883 (.a0 2 (.f8 1 (.j8 [aC,aA 1] .i4 (.b9 0 (.a0 0 (.a6 (.a5 1) (.e7 (.a0 1 (.f6 .Eq (.br (.a0 0 .k8) .n9))))))) (.a6 (.a5 0) (.e7 (.b9 4 (.i5 (.a0 3 (.a0 0 (.i6 34272352658209873594102387 (.f6 .In (.br .j1 .e9))))) (.a6 (.e8 aB) (.a0 0 (.i6 34272352658209873594102387 (.a0 3 (.r7 (.a0 0 (.f9 2285224917890458514164 (.a0 4 (.a6 (.a5 3) (.e7 (.a0 0 (.f9 17289243098546402035 (.a0 1 (.f8 1 (.a6 (.e8 aB) (.f8 3 (.b9 5 (.a6 (vS "set") (.a0 5 (.a6 (.a5 1) (.e7 (.a6 (.a5 1) (.j0 .Add (.a0 0 (.f9 1059478180819444 (.a0 0 (.f9 287859693749881953548147 (.a0 1 (.f8 1 (.a0 5 (.a6 (.a5 2) (.e7 (.f8 2 (.a8 3 (.a0 0 (.i6 35643093460954271031439987 (.a0 3 (.r7 .e9))))))))))))))))))))))))))))))))))))))))))))))) .e9))))) (.a0 0 (.i6 35643093460954271031439987 (.a0 3 (.e7 .b8)))))))))
def aNM:Co:=(.a0 2 (.j8 [aC,aA 1,aA 0] .i4 (.b9 0 (.a0 2 (.f9 2128998952246600955748 (.a0 0 (.a0 1 (.f8 2 .k8)))))) (.b9 4 (.i5 (.a0 4 (.j8 [aC,aA 4] .i4 (.b9 0 (.a0 0 (.a6 (.a5 1) (.e7 (.a0 1 (.a6 (.a5 0) (.e7 (.a6 (.a5 1) (.e7 (.f6 .NotEq (.br (.a0 0 .k8) .n9))))))))))) (.a7 0 (.f6 .NotEq (.br .j1 .e9))))) (.a6 (vS "set") (.a0 4 (.a6 (.a5 0) (.e7 (.a6 (.a5 1) (.e7 (.a0 0 (.f9 64652604654 (.a0 4 (.j8 [aC,aC] .i4 (.b9 0 (.a0 0 (.a6 (.a5 2) (.e7 (.v7 .i4 (.b9 1 (.a0 1 .k8))))))) (.f8 1 (.a8 3 .b8))))))))))))))))
def qy:Co:=(.a0 2 (.f9 3797748 (.a6 (vS "this/") (.a6 (vS "sig") (.a6 (vS "") (.a8 2 (.f8 2 (.a6 (.a5 1) (.e7 (.b9 3 (.j2 (.a0 3 (.a6 (vS "") (.f6 .NotEq (.br (.a0 3 (.a7 1 (.a0 0 (.i6 2248903923324291953395 (.f9 16274235532947225445 (.a0 3 (.f8 1 (.j0 .Add .b8)))))))) (.a7 0 .b8))))) (.b9 4 (.a0 0 (.f9 1010963601584883 (.a0 1 (.f8 1 (.j8 [aC,aA 4] .i4 (.b9 0 (.a0 0 (.a6 (.a5 1) (.e7 (.a0 1 (.f6 .In (.br (.a0 0 (.a6 (.a5 1) (.e7 .k8))) .n9))))))) .b8)))))))))))))))))
def aCY:Co:=(.j2 (.a0 3 (.br (.a0 0 (.f9 2092546825658757183332 (.a0 1 (.a0 2 (.f8 2 .b8))))) (.a0 0 (.f9 1037178441824230 (.a0 1 (.a0 2 (.f8 2 .b8))))))) (.b9 4 (.i5 (.a0 4 (.a6 (.a5 0) (.e7 (.a6 (vS "set") (.f6 .NotEq (.br .j1 .e9)))))) (.a0 4 .b8))))
def zb:Co:=(.i5 (.a0 1 (.a6 (.a5 0) (.e7 (.a6 (vS "arrow") (.f6 .NotEq (.br (.a0 0 (.f9 1037178441824230 (.a0 1 (.a0 2 (.f8 2 .b8))))) .e9)))))) (.a0 0 (.f9 2285224917890458514164 (.a0 1 (.a6 (.a5 4) (.e7 (.a0 2 (.a6 (.e8 aB) (.f8 3 (.a0 0 (.f9 2285224917890458514164 (.a0 1 (.a6 (.a5 5) (.e7 (.a0 2 (.a6 (.e8 aB) (.f8 3 (.a8 2 (.un 2 (.b9 3 (.b9 4 (.a6 (vS "set") (.a0 3 (.a6 (.a5 1) (.e7 (.a0 4 (.a6 (.a5 1) (.e7 (.j0 .Add (.a0 0 (.f9 1059478180819444 (.a0 3 (.a6 (.a5 2) (.e7 (.a0 4 (.a6 (.a5 2) (.e7 (.f8 2 (.a8 3 .b8)))))))))))))))))))))))))))))))))))))))
def aCB:Co:=(.i5 (.j2 (.a0 1 (.a6 (.a5 2) (.e7 (.a8 0 (.f6 .Eq (.br (.a0 2 (.j8 [aC] .i4 (.b9 0 (.a0 0 (.a6 (.a5 2) (.e7 (.a8 0 (.f6 .Eq (.br (.a0 0 .k8) .n9))))))) (.a7 0 (.f6 .Eq (.br (.a6 (.e8 aB) .b8) (.a6 (.e8 aI) .b8)))))) (.a6 (.e8 aI) .b8))))))) (.br (.a0 0 (.f9 519600494 (.a0 3 (.a6 (vS "this is surely empty") (.f8 2 (.l4 .e9)))))) .e9)) (.a0 1 .b8))
def aMV:Co:=(.a0 2 (.a0 3 (.a8 2 (.fr .i4 (.b9 5 (.a0 5 (.a6 (.a5 0) (.e7 (.a6 (vS "set") (.f6 .NotEq (.br .j1 .e9))))))) (.a0 2 (.a6 (.a5 1) (.e7 (.a0 3 (.a6 (.a5 1) (.e7 (.f6 .NotEq (.br .j1 .e9))))))))))))
def aFX:Co:=(.a0 0 (.f9 60626204133 (.a0 1 (.a0 2 (.a0 3 (.a0 4 (.f8 4 (.l4 (.a0 2 (.a6 (.a5 1) (.e7 (.a0 0 (.f9 498692852 (.a0 2 (.a6 (.a5 2) (.e7 (.a0 3 (.a6 (.a5 2) (.e7 (.f8 2 (.a8 2 (.un 2 (.b9 5 (.b9 6 (.i5 (.a0 1 (.a6 (vS "&") (.f6 .Eq (.br (.a0 0 (.f9 8381064115833 (.a6 (vS "set") (.a0 5 (.a0 6 (.a8 3 (.a0 2 (.a0 3 (.a8 2 (.a0 4 (.f8 3 .b8))))))))))) .e9)))) (.i5 (.a0 1 (.a6 (vS "-") (.f6 .Eq (.br (.i5 (.j2 (.a0 6 (.a8 0 (.f6 .Eq (.br (.a0 2 (.a6 (.a5 2) (.e7 (.a8 0 (.f6 .NotEq (.br (.a0 3 (.a6 (.a5 2) (.e7 (.a8 0 (.f6 .NotEq (.br (.a6 (.e8 aB) .b8) (.a6 (.e8 aI) .b8))))))) (.a6 (.e8 aI) .b8))))))) (.a6 (.e8 aI) .b8))))) (.br (.a0 0 (.f9 519600494 (.a0 4 (.a6 (vS "nothing is taken off") (.f8 2 (.l4 .e9)))))) .e9)) (.a6 (vS "set") (.a0 5 (.a0 2 (.a6 (.a5 2) (.e7 (.a8 3 .b8))))))) .e9)))) (.i5 (.j2 (.a0 1 (.a6 (vS "++") (.f6 .Eq (.br (.a0 5 (.a6 (.a5 2) (.f6 .Lt (.br (.a6 (.e8 aB) .b8) (.a6 (.e8 aI) .b8))))) (.a6 (.e8 aI) .b8))))) (.br .j1 .e9)) (.i5 (.a0 2 (.a6 (.a5 2) (.e7 (.a8 0 (.f6 .Eq (.a0 3 (.a6 (.a5 2) (.e7 (.a8 0 (.f6 .Eq (.f6 .NotEq (.br (.a0 0 (.f9 519600494 (.a0 4 (.a0 1 (.p1 8 (.a6 (vS ": one side is surely empty") (.D6 2 (.f8 2 (.l4 .e9))))))))) .e9)))))))))))) (.a6 (vS "set") (.a0 5 (.a0 0 (.f9 64652604654 (.a0 2 (.a6 (.a5 2) (.e7 (.p1 5 (.a0 3 (.a6 (.a5 2) (.e7 (.p1 5 (.j0 .Add (.f8 1 (.a8 3 .b8)))))))))))))))))))))))))))))))))))))))))))
def ix:Co:=(.a0 1 (.a0 2 (.a8 2 (.fr .i4 (.b9 4 (.a0 4 (.a6 (.a5 0) (.e7 (.a6 (vS "set") (.f6 .NotEq (.br .j1 .e9))))))) (.i5 (.a0 1 (.a6 (.a5 1) (.e7 (.a0 2 (.a6 (.a5 1) (.e7 (.j0 .Add (.a6 (.a5 3) (.f6 .Lt (.br .j1 .e9)))))))))) (.a0 0 (.f9 8381064115833 (.a6 (vS "set") (.a0 1 (.a6 (.a5 1) (.e7 (.a0 2 (.a6 (.a5 1) (.e7 (.j0 .Add (.a6 (.a5 2) (.j0 .Sub (.a0 0 (.f9 492565742 (.a0 1 (.a6 (.a5 2) (.e7 (.a0 2 (.a6 (.a5 2) (.e7 (.f8 2 (.a8 3 (.a0 1 (.a0 2 (.a8 2 (.a0 3 (.f8 3 .b8))))))))))))))))))))))))))))))))
def ie:Co:=(.a0 1 (.i7 3100 1 (.b7 0 (.j6 (.a0 0 (.n8 61140055667 (.b7 0 (.j6 (.a0 0 (.n8 267752755142263815485043 (.a6 (vS "") (.b7 0 (.j6 (.b7 1 (.j6 (.a0 0 (.n8 473757171 (.a6 (vS "") (.a0 0 (.n8 64652603877 .e9))))))))))))))))))))
def aFO:Co:=(.a0 1 (.a6 (.a5 0) (.e7 (.a0 1 (.a6 (.a5 1) (.e7 (.a8 2 (.un 2 (.b9 3 (.b9 4 (.a0 0 (.f9 60879928046 (.a0 1 (.a0 2 (.f8 2 (.un 2 (.b9 5 (.b9 6 (.i5 (.a0 5 (.a6 (vS "") (.f6 .NotEq (.br (.a0 0 (.f9 16412158717693949796 (.a0 5 (.a0 6 (.a0 4 (.a0 2 (.f8 4 .b8))))))) .e9)))) (.i5 (.a0 3 (.a6 (vS "name") (.f6 .Eq (.br (.a0 0 (.f9 17204796409639499620 (.a0 1 (.a6 (.a5 2) (.e7 (.a0 4 (.a0 2 (.f8 3 .b8)))))))) .e9)))) (.i5 (.a0 3 (.a6 (vS "num") (.f6 .Eq (.br .j1 .e9)))) (.i5 (.a0 3 (.a6 (vS "none") (.a6 (vS "univ") (.a8 2 (.f6 .In (.br (.a6 (vS "set") (.a6 (.a5 1) (.j2 (.a0 3 (.a6 (vS "univ") (.f6 .Eq (.br (.a0 0 (.f9 64652604654 (.a0 0 (.f9 513538163 (.f8 0 (.j8 [aC] .i4 (.b9 0 (.a0 0 (.a8 1 .k8))) (.f8 1 .b8))))))) (.a8 0 .b8))))) (.a8 3 .b8)))) .e9)))))) (.i5 (.a0 3 (.a6 (vS "iden") (.f6 .Eq (.br (.a6 (vS "set") (.a6 (.a5 2) (.a0 0 (.f9 64629668211 (.f8 0 (.a8 3 .b8)))))) .e9)))) (.i5 (.a0 3 (.a6 (vS "un") (.f6 .Eq (.br (.a0 0 (.f9 8415424000740 (.a0 1 (.a6 (.a5 2) (.e7 (.a0 0 (.f9 1037178441824230 (.a0 1 (.a6 (.a5 3) (.e7 (.a0 2 (.f8 2 (.a0 4 (.f8 3 .b8)))))))))))))) .e9)))) (.i5 (.a0 3 (.a6 (vS "bin") (.f6 .Eq (.br (.a0 0 (.f9 127692289655600996 (.a0 1 (.a0 2 (.f8 2 .b8))))) .e9)))) (.i5 (.a0 3 (.a6 (vS "arrow") (.f6 .Eq (.br (.a0 0 (.f9 2083537942605037467492 (.a0 1 (.a0 2 (.f8 2 .b8))))) .e9)))) (.i5 (.a0 3 (.a6 (vS "box") (.f6 .Eq (.br (.a0 0 (.f9 127719021532051300 (.a0 1 (.a0 2 (.f8 2 .b8))))) .e9)))) (.i5 (.a0 3 (.a6 (vS "quant") (.a6 (vS "compr") (.a6 (vS "let") (.a8 3 (.f6 .In (.br (.a0 0 (.f9 34277138360569155196450660 (.a0 1 (.a0 2 (.f8 2 .b8))))) .e9))))))) (.i5 (.a0 3 (.a6 (vS "if") (.f6 .Eq (.br (.a0 0 (.f9 2285224917688634931816 (.a0 1 (.a6 (.a5 2) (.e7 (.a0 2 (.f8 2 (.l4 (.a0 0 (.f9 7896810795762 (.a0 0 (.f9 1037178441824230 (.a0 1 (.a6 (.a5 3) (.e7 (.a0 2 (.f8 2 (.a0 0 (.f9 1037178441824230 (.a0 1 (.a6 (.a5 4) (.e7 (.a0 2 (.f8 2 (.a0 4 (.f8 3 .b8)))))))))))))))))))))))))) .e9)))) (.i5 (.a0 3 (.a6 (vS "block") (.f6 .NotEq (.br .j1 .e9)))) (.a0 1 (.a6 (.a5 2) (.e7 (.fr .i4 (.b9 7 (.a0 0 (.f9 2285224917688634931816 (.a0 7 (.a0 2 (.f8 2 (.l4 .e9))))))) .j1))))))))))))))))))))))))))))))))))
def aJN:Co:=(.i5 (.j2 (.a0 1 (.a0 3 (.f6 .In (.br (.a0 1 (.a6 (vS "this/") (.f6 .NotEq (.br (.a6 (.e8 aB) .b8) (.a6 (.e8 aI) .b8))))) (.a6 (.e8 aI) .b8))))) (.br (.a0 3 (.a0 1 (.e7 .b8))) .e9)) (.i5 (.a0 0 (.i6 2248903923324291953395 (.f9 3813619 (.a0 1 (.f8 1 (.br (.a0 0 (.f9 137262198345594724 (.a0 1 (.f8 1 .b8)))) .e9)))))) (.i5 (.a0 0 (.f9 1010963601584883 (.a0 1 (.f8 1 (.a7 0 (.f6 .NotEq (.br (.a0 0 (.f9 135072211718009843 (.a0 1 (.a0 3 (.f8 2 (.b9 4 (.i5 (.a0 4 (.a7 0 (.f6 .NotEq (.br (.a0 0 (.f9 8070197129956 (.a0 3 (.a6 (vS "this") (.e7 (.a0 0 (.f9 272511865888248899991396 (.a0 1 (.a0 4 (.a0 2 (.f8 3 (.a0 2 (.f8 3 .b8))))))))))))) .e9)))) (.a0 0 (.f9 272511865888248899991396 (.a0 1 (.a0 0 (.f9 1010963601584883 (.a0 1 (.f8 1 (.j8 [aC] .i4 (.b9 0 (.a0 0 (.a6 (.a5 1) (.e7 .k8)))) (.a0 2 (.f8 3 .b8))))))))))))))))) .e9))))))) (.a0 0 (.f9 135049879496423398 (.a0 1 (.f8 1 (.b9 5 (.i5 (.a0 5 (.a6 .h9 (.f6 .Is (.br .j1 .e9)))) (.a0 0 (.f9 2212657225669392627556 (.a0 5 (.a0 1 (.a0 2 (.f8 3 .b8)))))))))))))))
def aI7:Co:=(.a0 1 (.un 5 (.b9 3 (.b9 4 (.b9 5 (.b9 6 (.b9 7 (.i5 (.a0 5 (.a6 (vS "&&") (.a6 (vS "||") (.a6 (vS "=>") (.a6 (vS "<=>") (.a8 4 (.f6 .In (.br (.a0 0 (.f9 2285224917688634931816 (.a0 6 (.a0 2 (.f8 2 (.l4 (.a0 0 (.f9 2285224917688634931816 (.a0 7 (.a0 2 (.f8 2 (.l4 .j1)))))))))))) .e9)))))))) (.a0 0 (.f9 1037178441824230 (.a0 6 (.a0 2 (.f8 2 (.b9 8 (.j2 (.a0 5 (.a6 (vS "in") (.a6 (vS "!in") (.a8 2 (.f6 .In (.br (.a0 0 (.f9 2092546825658757183332 (.a0 7 (.a0 2 (.f8 2 .b8))))) (.a0 0 (.f9 1037178441824230 (.a0 7 (.a0 2 (.f8 2 .b8))))))))))) (.b9 9 (.i5 (.a0 5 (.a6 (vS ".") (.f6 .Eq (.br (.a0 0 (.f9 8070197129956 (.a0 8 (.a0 9 (.a0 4 (.f8 3 .b8)))))) .e9)))) (.i5 (.a0 5 (.a6 (vS "<:") (.a6 (vS ":>") (.a8 2 (.f6 .In (.br (.a0 0 (.f9 1041576230728420 (.a0 5 (.a0 8 (.a0 9 (.a0 4 (.f8 4 .b8))))))) .e9)))))) (.i5 (.a0 5 (.a6 (vS "+") (.a6 (vS "-") (.a6 (vS "&") (.a6 (vS "++") (.a8 4 (.f6 .In (.br (.a0 0 (.f9 283109092600055898667635 (.a0 5 (.a0 8 (.a0 9 (.a0 4 (.f8 4 .b8))))))) .e9)))))))) (.a0 0 (.f9 128281598070928100 (.a0 5 (.a0 8 (.a0 9 (.a0 4 (.f8 4 .b8))))))))))))))))))))))))))
def sr:Co:=(.i5 (.j2 (.a0 1 (.a6 (.a5 2) (.e7 (.a6 (vS "") (.a6 (vS "set") (.a8 2 (.f6 .NotIn (.br (.a6 (.e8 aB) .b8) (.a0 1 (.a6 (.a5 3) (.e7 (.a6 (vS "") (.a6 (vS "set") (.a8 2 (.f6 .NotIn (.br (.a6 (.e8 aB) .b8) (.a6 (.e8 aI) .b8))))))))))))))))) (.br .j1 .e9)) (.a0 0 (.f9 2285224917890458514164 (.a0 1 (.a6 (.a5 4) (.e7 (.a0 2 (.a6 (.e8 aI) (.f8 3 (.a0 0 (.f9 2285224917890458514164 (.a0 1 (.a6 (.a5 5) (.e7 (.a0 2 (.a6 (.e8 aI) (.f8 3 (.a8 2 (.un 2 (.b9 3 (.b9 4 (.a6 (vS "set") (.a0 3 (.a6 (.a5 1) (.e7 (.a0 4 (.a6 (.a5 1) (.e7 (.j0 .Add (.a0 0 (.f9 1059478180819444 (.a0 3 (.a6 (.a5 2) (.e7 (.a0 4 (.a6 (.a5 2) (.e7 (.f8 2 (.a8 3 .b8)))))))))))))))))))))))))))))))))))))))
def aLS:Co:=(.i5 (.j2 (.a0 1 (.a0 2 (.f6 .In (.br (.a6 (.e8 aB) .b8) (.a0 0 (.i6 2248903923324291953395 (.f9 3813619 (.a0 1 (.f8 1 (.br (.a6 (.e8 aB) .b8) (.a0 0 (.f9 1010963601584883 (.a0 1 (.f8 1 (.a7 0 (.f6 .NotEq (.br (.a6 (.e8 aB) .b8) (.a6 (.e8 aI) .b8)))))))))))))))))) (.br (.a6 (.a5 1) (.v1 .b8)) .e9)) (.i5 (.a0 1 (.a0 0 (.i6 61140055667 (.f6 .In (.br (.a0 0 (.i6 61140055667 (.a0 1 (.e7 (.a6 (.a5 0) (.e7 (.j8 [aC,aC] .i4 (.b9 0 (.a0 0 (.a6 (.a5 2) (.e7 (.v7 .i4 (.b9 1 (.a0 1 .k8))))))) (.p1 0 .b8)))))))) .e9))))) (.i5 (.a0 1 (.a6 (vS "plus") (.a6 (vS "minus") (.a6 (vS "mul") (.a8 3 (.f6 .In (.br (.a6 (.a5 2) .b8) .e9))))))) (.a0 0 (.f9 135049879496423398 (.a0 1 (.f8 1 (.b9 3 (.i5 (.j2 (.a0 3 (.a6 .h9 (.f6 .Is (.br (.a6 (.e8 aB) .b8) (.a0 3 (.a6 (.a5 0) (.e7 (.a6 (vS "first") (.a6 (vS "last") (.a6 (vS "next") (.a6 (vS "prev") (.a8 4 (.f6 .In (.br (.a6 (.e8 aB) .b8) (.a6 (.e8 aI) .b8))))))))))))))) (.br (.a6 (.a5 1) (.v1 .b8)) .e9)) (.j2 (.a0 3 (.a6 (.a5 0) (.e7 (.a6 (vS "nexts") (.a6 (vS "prevs") (.a8 2 (.f6 .In (.br (.a6 (.a5 1) .b8) (.a6 (.a5 2) .b8))))))))) .b8))))))))))
def km:Co:=(.i5 (.j2 (.a0 1 (.a6 (.a5 0) (.e7 (.a6 (vS "name") (.f6 .Eq (.br (.a0 0 (.f9 8275533296371 (.a0 1 (.a6 (.a5 2) (.e7 (.a0 2 (.f8 2 (.a6 (.a5 0) (.f6 .GtE (.br (.a6 (.e8 aB) .b8) (.a6 (.e8 aI) .b8))))))))))) (.a6 (.e8 aI) .b8))))))) (.br (.a0 1 (.a6 (.a5 2) (.e7 (.a8 0 (.a8 2 .b8))))) .e9)) (.i5 (.a0 1 (.a6 (.a5 0) (.e7 (.a6 (vS "box") (.f6 .Eq (.br (.a0 0 (.f9 60879928046 (.a0 1 (.a6 (.a5 2) (.e7 (.a0 2 (.f8 2 (.un 2 (.b9 3 (.b9 4 (.j2 (.a0 3 (.a6 (vS "") (.f6 .NotEq (.br (.a0 1 (.a6 (.a5 3) (.e7 (.p1 0 (.a0 0 (.f9 8275533296371 (.a0 3 (.a0 2 (.f8 2 (.a0 4 (.p1 0 (.j0 .Sub (.f6 .LtE (.br (.a6 (.e8 aB) .b8) (.a6 (.e8 aI) .b8))))))))))))))) (.a6 (.e8 aI) .b8))))) (.br (.a0 3 (.a0 4 (.a0 1 (.a6 (.a5 3) (.e7 (.p1 4 (.j0 .Add (.a8 2 .b8)))))))) .e9)))))))))))) .e9)))))) (.i5 (.j2 (.a0 1 (.a6 (.a5 0) (.e7 (.a6 (vS "bin") (.f6 .Eq (.br (.a0 1 (.a6 (.a5 2) (.e7 (.a6 (vS ".") (.f6 .Eq (.br (.a6 (.e8 aB) .b8) (.a6 (.e8 aI) .b8))))))) (.a6 (.e8 aI) .b8))))))) (.br (.a0 0 (.f9 60879928046 (.a0 1 (.a6 (.a5 4) (.e7 (.a0 2 (.f8 2 (.un 2 (.b9 3 (.b9 4 (.j2 (.a0 3 (.a6 (vS "") (.f6 .NotEq (.br (.a0 4 (.p1 0 (.a0 0 (.f9 8275533296371 (.a0 3 (.a0 2 (.f8 2 (.f6 .Lt (.br (.a6 (.e8 aB) .b8) (.a6 (.e8 aI) .b8)))))))))) (.a6 (.e8 aI) .b8))))) (.br (.a0 3 (.a0 1 (.a6 (.a5 3) (.e7 (.a8 1 (.a0 4 (.j0 .Add (.a8 2 .b8)))))))) .e9)))))))))))) .e9)) (.a6 (vS "") (.a8 0 (.a8 2 .b8))))))
def zd:Co:=(.b7 0 (.j6 (.a0 0 (.n8 1010963601584883 (.a7 0 (.j6 (.a0 0 (.n8 8380760175219 (.a7 0 (.j6 (.a0 0 (.n8 8242255868644 (.a0 1 (.fr .i4 (.b9 2 (.a0 2 (.a6 (.a5 0) (.e7 (.a6 (vS "sig") (.f6 .Eq (.br (.a0 0 (.f9 137790102951490791 (.a0 2 (.f8 1 (.l4 .e9))))) .e9))))))) (.a0 0 (.i6 8380760175219 (.fr .i4 (.b9 3 (.a0 0 (.f9 2184777154962164284261 (.a0 3 (.f8 1 (.l4 .e9)))))) (.a0 0 (.f9 4657068899880487522731342324 (.f8 0 (.a0 0 (.n8 1055077183566564 (.a0 0 (.f9 2083102148390901461619 (.f8 0 (.a0 0 (.n8 2213023116341192372851 (.a0 0 (.f9 279651475835330684990067 (.f8 0 (.l4 (.a0 1 (.fr .i4 (.b9 2 (.a0 2 (.a6 (.a5 0) (.e7 (.a6 (vS "open") (.f6 .Eq (.br (.a0 0 (.f9 2257553046756170216178 (.a0 2 (.f8 1 (.l4 .e9))))) .e9))))))) .e9)))))))))))))))))))))))))))))))))
noncomputable def aLH:Co:=(.a0 1 (.a6 (.a5 2) (.e7 (.fr .i4 (.b9 2 (.i5 (.a0 2 (.a0 0 (.i6 1010963601584883 (.f6 .In (.br .j1 .e9))))) (.a0 1 (.a0 0 (.i6 1010963601584883 (.a0 2 (.r7 (.a0 0 (.i6 8380760175219 (.f9 7761242453860 (.a0 2 (.f8 1 (.l4 .e9))))))))))))) (.j2 (.a0 1 (.a6 (.a5 6) (.e7 (.p1 0 (.a6 (.a5 0) (.f6 .Gt (.br (.a0 1 (.a6 (.a5 3) (.e7 (.br (.a6 (.e8 aB) .b8) (.a6 (.e8 aI) .b8))))) (.a6 (.e8 aI) .b8)))))))) (.br .j1 .e9))))))
def qm:Co:=(.a0 0 (.f9 7862446813684 (.a0 1 (.f8 1 (.fr .i4 (.b9 2 (.a0 2 (.a0 0 (.i6 1010963601584883 (.f6 .NotIn (.br .j1 .e9)))))) (.j2 (.a0 0 (.f9 8272616191860 (.a0 1 (.f8 1 (.a6 (vS "") (.f6 .NotEq (.br (.a0 0 (.f9 16854580452883493620 (.a0 0 (.f9 8272616191860 (.a0 1 (.f8 1 (.f8 1 (.br (.a6 (.e8 aB) .b8) (.a6 (.e8 aI) .b8))))))))) (.a6 (.e8 aI) .b8)))))))) (.br .j1 .e9)))))))
def aC5:Co:=(.j2 (.a0 0 (.f9 8272616191860 (.a0 1 (.f8 1 (.a6 (vS "") (.f6 .NotEq (.br (.a0 0 (.f9 8272616191860 (.a0 1 (.f8 1 (.a8 1 .b8))))) (.a8 0 .b8)))))))) (.a0 0 (.f9 8381059922291 (.a0 1 (.f8 1 (.j0 .Add .b8))))))
noncomputable def aAE:Co:=(.a7 0 (.j6 (.a0 0 (.i6 8380760175219 (.p1 5 (.j6 (.a8 2 (.un 2 (.b9 1 (.b9 2 (.E5 (.a0 2 (.p1 0 (.a6 (.a5 0) (.f6 .Gt (.br (.a0 2 (.j8 [aC,aA 1,aA 0] .i4 (.b9 0 (.a0 2 (.f9 7862446813684 (.a0 0 (.f8 1 (.j8 [aC,aA 1] .i4 (.b9 0 (.a0 0 (.a0 1 (.f6 .NotIn (.br (.a0 0 .k8) .n9))))) (.a7 0 (.f6 .Eq (.br (.a0 0 .k8) .n9))))))))) (.b9 3 (.i5 (.a0 3 (.p1 0 (.a6 (.a5 0) (.f6 .Eq (.br .j1 .e9))))) (.a0 1 (.f9 7761242453860 (.a0 3 (.a6 (.a5 0) (.e7 (.f8 1 (.l4 (.a0 2 (.f9 8342399089509 (.a0 3 (.a6 (.a5 0) (.e7 (.f8 1 (.l4 .e9)))))))))))))))))) .r4))))) (.a0 1 .b8))))))))))))
noncomputable def rp:Co:=(.a7 0 (.j6 (.a6 (.a5 0) (.a8 2 (.un 2 (.b9 1 (.b9 2 (.a0 0 (.i6 1055077183566564 (.fr .i4 (.b9 3 (.a0 0 (.i6 1010963601584883 (.a0 3 (.e7 (.a6 (.a5 7) (.e7 (.fr .i4 (.un 5 (.b9 4 (.b9 5 (.b9 6 (.b9 7 (.b9 8 (.a0 6 (.fr .i4 (.b9 9 (.a0 1 (.f9 7761242453860 (.a0 9 (.a0 3 (.a0 7 (.a0 8 (.a0 4 (.j2 (.a0 5 (.br (.a0 2 .b8) (.a6 (.a5 1) (.v1 .b8)))) (.a8 6 (.f8 1 (.l4 .e9)))))))))))) (.a0 2 (.j2 (.a0 5 (.br (.a6 (.a5 1) .b8) (.a6 (.a5 0) .b8))) (.j0 .Add (.b9 2 .e9)))))))))))) .e9)))))))) (.a0 1 .b8)))))))))))
noncomputable def aAD:Co:=(.b7 0 (.j6 (.b9 1 (.a0 0 (.i6 2213023116341192372851 (.fr .i4 (.un 6 (.b9 2 (.b9 3 (.b9 4 (.b9 5 (.b9 6 (.b9 7 (.i5 (.a0 2 (.a0 0 (.i6 1010963601584883 (.f6 .In (.br .j1 .e9))))) (.a0 3 (.a7 1 (.a0 0 (.f9 16274235532947225445 (.a0 3 (.f8 1 (.j0 .Add (.fr .i4 (.b9 8 (.a0 2 (.a0 8 (.a8 2 (.a0 1 (.f6 .In (.br .j1 .e9))))))) (.a6 (.e8 aB) (.a0 1 (.a0 2 (.a0 3 (.a8 2 (.r7 .e9)))))))))))))))))))))) .e9))))))
def ou:Co:=(.a0 1 (.v0 (.D7 1 5) (.un 4 (.b9 2 (.b9 3 (.b9 4 (.b9 5 (.i5 (.j2 (.a0 3 (.a6 (vS "util/ordering") (.f6 .NotEq (.br (.a6 (.e8 aB) .b8) (.a0 4 (.p1 0 (.a6 (.a5 1) (.f6 .NotEq (.br (.a6 (.e8 aB) .b8) (.a6 (.e8 aI) .b8)))))))))) (.br .j1 .e9)) (.i5 (.a0 4 (.a6 (.a5 0) (.e7 (.a0 0 (.i6 1010963601584883 (.f6 .NotIn (.br .j1 .e9))))))) (.j2 (.a0 5 (.a6 (vS "") (.f6 .NotEq (.br (.a0 5 .b8) (.a6 (vS "ordering") .b8))))) (.b9 6 (.i5 (.a0 6 (.a0 0 (.i6 8242255868644 (.j8 [aC,aC] .i4 (.un 2 (.b9 0 (.b9 1 (.a0 0 .k8)))) (.f6 .In (.br .j1 .e9)))))) (.a0 0 (.i6 8242255868644 (.f9 7761242453860 (.a0 6 (.a0 4 (.a6 (.a5 0) (.e7 (.a8 2 (.f8 1 (.l4 .e9))))))))))))))))))))))
noncomputable def qu:Co:=(.a0 0 (.i6 1055077183566564 (.p1 5 .b8)))
noncomputable def aOS:Co:=(.a0 1 (.a0 0 (.i6 1010963601584883 (.f6 .In .b8))))
noncomputable def aN9:Co:=(.a0 0 (.i6 1010963601584883 (.a0 1 (.e7 (.a6 (.a5 5) (.e7 .b8))))))
noncomputable def aM6:Co:=(.a0 0 (.i6 1010963601584883 (.a0 1 (.e7 (.a6 (.a5 6) (.e7 (.p1 4 .b8)))))))
noncomputable def aEQ:Co:=(.a0 0 (.i6 1010963601584883 (.a0 1 (.e7 (.a6 (.a5 6) (.e7 (.p1 0 (.a6 (.a5 0) (.f6 .Gt .b8)))))))))
noncomputable def aEK:Co:=(.a0 0 (.i6 8380760175219 (.j8 [aC,aA 1,aA 0] .i4 (.b9 0 (.a0 2 (.f9 8272616191860 (.a0 0 (.f8 1 (.a0 1 (.f6 .Eq (.br (.a0 0 .k8) .n9)))))))) .b8)))
def aBQ:Co:=(.a7 0 (.j6 (.b9 2 (.E5 (.a0 0 (.f9 8272616191860 (.a0 1 (.f8 1 (.a6 (vS "") (.f6 .NotEq (.br (.a0 0 (.f9 8272616191860 (.a0 1 (.f8 1 (.b9 1 (.a0 2 (.f9 7761242453860 (.a0 1 (.f8 1 (.l4 .e9)))))))))) .r4))))))) (.a0 2 .b8)))))
def aFN:Co:=(.i5 (.a0 0 (.f9 16854580452883493620 (.a0 1 (.f8 1 (.br (.a6 (vS "") .b8) .e9))))) (.a0 1 (.a7 1 (.a0 0 (.f9 60605332325 (.a0 1 (.f8 1 (.j0 .Add (.a6 (.a5 1) (.v1 (.e7 .b8)))))))))))
noncomputable def mw:Co:=(.a7 0 (.j6 (.a0 0 (.f9 7862446813684 (.a0 1 (.f8 1 (.p1 5 (.j6 (.a8 2 (.un 2 (.b9 2 (.b9 3 (.E5 (.a0 3 (.p1 0 (.a6 (.a5 0) (.f6 .Gt (.br (.a0 3 (.f9 3946480 (.a6 (.a5 0) (.f8 1 (.b9 4 (.a0 4 (.a0 2 (.f6 .NotIn (.br (.a0 2 (.f9 7761242453860 (.a0 4 (.f8 1 (.l4 (.a0 3 (.f9 7900837279588 (.a0 0 (.f9 7862446813684 (.a0 4 (.f8 1 (.f8 1 (.l4 .e9))))))))))))) .e9))))))))) .r4))))) (.a0 2 .b8))))))))))))))
noncomputable def aJ6:Co:=(.a0 0 (.i6 1010963601584883 (.a0 1 (.e7 (.a6 (.a5 3) (.e7 .b8))))))
noncomputable def aK1:Co:=(.a0 0 (.i6 1010963601584883 (.a0 1 (.e7 (.a6 (.a5 4) (.e7 .b8))))))
noncomputable def aC7:Co:=(.a0 0 (.i6 2213023116341192372851 (.p1 5 .b8)))
noncomputable def aIQ:Co:=(.a0 0 (.i6 8242255868644 (.p1 5 .b8)))
def aML:Co:=(.a0 0 (.a6 (vS "spot") (.e7 (.b9 2 (.a0 2 (.a6 (.a5 1) (.j0 .Add (.a0 0 (.a6 (vS "spot") (.r7 (.j2 (.a0 2 (.a0 0 (.a6 (vS "cells") (.e7 (.p1 0 (.f6 .Lt (.br (.a0 0 (.a6 (vS "cells") (.e7 (.a0 2 (.e7 .b8))))) (.a6 (.a5 3) (.a0 2 (.j0 .Mult (.a0 2 (.j0 .Mult (.a0 2 (.j0 .Add (.a6 (.a5 2) (.j0 .Add .b8)))))))))))))))) (.a0 1 (.j0 .Mod .b8)))))))))))))
def aAQ:Co:=(.a6 (vS "T") (.a6 (vS "") (.a8 0 (.a6 (.e8 aI) (.a6 (vS "") (.a6 (vS "some") (.a6 (vS "lone") (.a6 (vS "one") (.a7 4 (.a0 0 (.a6 (.a5 4) (.j9 3899 2 (.e7 (.a8 4 (.a6 (vS "U") (.a6 (vS "") (.a8 0 (.a6 (.e8 aI) (.a6 (vS "") (.a8 4 (.b7 2 (.j6 (.b9 1 (.a6 (vS "") (.a8 0 (.a6 (.e8 aB) (.a6 (vS "") (.a8 4 (.a0 1 (.a6 (vS "E") (.r7 (.a6 (.a5 2) (.a0 0 (.a6 (.a5 2) (.j9 3899 2 (.j0 .Add (.fr .r1 (.b9 2 (.a6 (vS "E") (.a8 0 (.a6 (.e8 aI) (.a6 (vS "one") (.a8 4 (.a0 1 (.a6 (vS "E") (.a0 2 (.p1 7 (.j0 .Add (.r7 .e9)))))))))))) (.a6 (vS "T") (.a6 (vS "U") (.a7 2 (.a0 0 (.a6 (.a5 2) (.j9 3899 2 (.e7 (.a8 0 (.a6 (.e8 aI) (.a6 (vS "") (.a8 4 (.a0 1 (.a6 (vS "B") (.r7 (.i5 (.a0 0 (.a6 (.a5 2) (.j9 3899 2 (.a6 (.a5 1) (.f6 .Eq (.br (.a6 (vS "B") (.a8 0 (.a6 (.e8 aI) (.a6 (vS "lone") (.a8 4 (.a0 1 (.a6 (vS "D") (.r7 .e9)))))))) .e9)))))) (.a6 (vS "T") (.a6 (vS "U") (.a8 2 (.a6 (vS "B") (.a8 1 (.a6 (vS "E0") (.a6 (vS "U") (.a8 2 (.a6 (vS "T") (.a6 (vS "E") (.a8 2 (.a6 (vS "U") (.a8 1 (.a7 5 (.a0 0 (.a6 (.a5 5) (.j9 3899 2 (.e7 (.b9 3 (.a6 (vS "") (.a0 3 (.a6 (.e8 aI) (.a6 (vS "") (.a8 4 (.a0 1 (.a6 (vS "S") (.r7 (.a6 (vS "") (.a6 (vS "S") (.a8 1 (.a6 (vS "S") (.a6 (vS "U") (.a8 2 (.a6 (vS "E1") (.a6 (vS "S") (.a8 2 (.a7 3 (.a0 0 (.a6 (.a5 3) (.j9 3899 2 (.e7 (.a6 (.e8 aI) (.a6 (vS "") (.a8 4 (.a0 1 (.a6 (vS "R") (.r7 (.a0 1 .b8))))))))))))))))))))))))))))))))))))))))))))))))))))))))))))))))))))))))))))))))))))))))))))))))))))
def aBK:Co:=(.a6 (vS "name") (.a6 (.a5 0) (.a0 1 (.a0 0 (.a0 1 (.p1 0 (.j9 3899 2 (.e7 (.a8 3 .b8)))))))))
def aCZ:Co:=(.a0 0 (.a6 (.a5 8) (.j9 3899 2 (.b9 2 (.i5 (.a0 2 (.a6 (.a5 2) (.f6 .Lt (.br (.a6 (vS "none") (.a6 (vS "univ") (.a7 2 (.a0 2 (.e7 (.a6 (.a5 0) (.a8 2 .b8))))))) .e9)))) (.a0 0 (.a0 1 (.j9 4099 2 (.b9 3 (.j2 (.a0 2 (.a6 (.a5 5) (.f6 .Lt (.br (.a0 3 .b8) (.a6 (vS "bin") (.a6 (.a5 0) (.j2 (.a0 2 (.a6 (.a5 7) (.f6 .Lt (.br (.a6 (vS "+") .b8) (.a6 (vS "-") .b8))))) (.a0 3 (.a0 0 (.a0 1 (.j9 4099 2 (.a8 5 .b8)))))))))))) .b8))))))))))
def aHU:Co:=(.a0 0 (.a6 (.a5 6) (.j9 3899 2 (.b9 3 (.i5 (.j2 (.a0 3 (.a6 (.a5 1) (.f6 .Eq (.br (.a0 2 (.a6 (vS "") (.f6 .NotEq (.br (.a6 (.e8 aB) .b8) (.a6 (.e8 aI) .b8))))) (.a6 (.e8 aI) .b8))))) (.br (.a6 (vS "name") (.a6 (.a5 0) (.a0 2 (.a8 3 .b8)))) .e9)) (.i5 (.a0 3 (.a6 (.a5 2) (.f6 .Lt (.br (.a0 0 (.a0 1 (.j9 4199 2 .b8))) .e9)))) (.a6 (vS "T") (.a6 (vS "U") (.a6 (vS "B") (.a7 3 (.b9 4 (.j2 (.a0 3 (.a6 (.a5 5) (.f6 .Eq (.br (.a0 4 .b8) (.a0 1 (.v0 (.x5 1) .b8)))))) (.b9 5 (.a6 (vS "arrow") (.a6 (.a5 0) (.a6 (vS "") (.a6 (vS "") (.a0 0 (.a0 5 (.j9 4099 2 (.a0 0 (.a0 5 (.j9 4099 2 (.a8 6 (.b9 6 (.i5 (.a0 3 (.a6 (.a5 4) (.f6 .Lt (.br (.a0 6 .b8) .e9)))) (.i5 (.a0 3 (.a6 (.a5 4) (.f6 .Eq (.br (.a6 (vS "bin") (.a6 (.a5 0) (.a6 (vS "+") (.a0 6 (.a6 (vS "arrow") (.a6 (.a5 0) (.a6 (vS "") (.a6 (vS "") (.a0 0 (.a0 4 (.j9 4099 2 (.a0 0 (.a0 4 (.j9 4099 2 (.a8 6 (.a8 5 .b8)))))))))))))))) .e9)))) (.a6 (vS "arrow") (.a6 (.a5 0) (.a6 (vS "") (.a6 (vS "") (.a6 (vS "lone") (.a7 2 (.a0 0 (.a6 (.a5 2) (.j9 3899 2 (.e7 (.a6 (vS "name") (.a6 (.a5 0) (.a6 (vS "B") (.a8 3 (.a0 6 (.a8 6 .b8)))))))))))))))))))))))))))))))))))))))))))
def aNX:Co:=(.a7 0 (.j6 (.b9 2 (.a6 (.a5 1) (.a0 0 (.a6 (.a5 4) (.j9 3899 2 (.j0 .Add (.fr .r1 (.b9 3 (.a0 1 (.a0 0 (.a0 1 (.p1 0 (.j9 3899 2 (.e7 (.b9 4 (.a0 2 (.j8 [aC,aA 4] .i4 (.b9 0 (.a0 0 (.a6 (.a5 0) (.e7 (.a0 1 (.f6 .Eq (.br (.a0 0 (.a6 (.a5 1) (.e7 .k8))) .n9))))))) (.b9 5 (.a0 5 (.p1 0 (.a6 (.a5 2) (.f6 .Lt (.br (.a0 2 (.f9 7761242453860 (.a0 4 (.a6 (vS "f") (.a0 3 (.p1 7 (.j0 .Add (.a0 0 (.a0 1 (.j2 (.a0 5 (.a7 0 (.f6 .NotEq (.br (.a0 5 (.a6 (.a5 0) (.e7 .b8))) (.a6 (vS "") .b8))))) (.j9 4299 3 (.a8 3 (.f8 1 (.l4 .e9)))))))))))))) .e9)))))))))))))))) (.a0 2 .b8))))))))))
def xn:Co:=(.a7 0 (.j6 (.b9 1 (.E5 (.a0 1 (.p1 0 (.a0 0 (.p1 0 (.f6 .Lt (.br (.a0 0 (.j8 [aC,aA 1,aA 0] .i4 (.b9 0 (.j2 (.a0 0 (.a0 1 (.f6 .NotIn (.br (.j2 (.a0 2 (.a0 0 (.e7 (.a6 (.a5 0) (.e7 (.a6 (vS "") (.f6 .Eq (.br (.a6 (.e8 aB) .b8) (.a0 2 (.a0 0 (.e7 (.a6 (.a5 0) (.e7 (.a0 1 (.f6 .In (.br (.a6 (.e8 aB) .b8) (.a6 (.e8 aI) .b8))))))))))))))))) (.br (.a6 (.e8 aB) .b8) (.a6 (.e8 aI) .b8))) (.a6 (.e8 aI) .b8))))) (.br (.a0 0 .k8) .n9))) (.b9 2 (.a0 1 (.f9 7761242453860 (.a0 2 (.j8 [aC,aA 1,aA 0] .i4 (.b9 0 (.a0 2 (.a0 0 (.e7 (.a6 (.a5 1) (.e7 (.j8 [aC,aA 1] .i4 (.b9 0 (.a0 0 (.a0 1 (.f6 .NotIn (.br (.a0 0 .k8) .n9))))) (.a7 0 (.f6 .Eq (.br (.a0 0 .k8) .n9)))))))))) (.a6 (.a5 0) (.e7 (.f8 1 (.l4 .e9))))))))))) .r4)))))) (.a0 1 .b8)))))
def aK5:Co:=(.a7 0 (.j6 (.a6 (vS "U") (.a6 (vS "B") (.a6 (vS "D") (.a6 (vS "E0") (.a7 4 (.j8 [aC,aA 1] .i4 (.b9 0 (.a0 0 (.a0 1 (.f6 .In (.br (.a0 0 .k8) .n9))))) (.j6 (.a8 2 (.un 2 (.b9 3 (.b9 4 (.i5 (.a0 1 (.a6 (vS "T") (.e7 (.a6 (.a5 3) (.e7 (.a6 (vS "") (.a6 (vS "some") (.a8 2 (.f6 .In (.br (.a0 4 (.f9 7761242453860 (.a6 (vS "T") (.f8 1 (.l4 .e9))))) .e9)))))))))) (.a0 0 (.a6 (.a5 3) (.j9 3899 2 (.fr .r1 (.b9 5 (.a0 4 (.f9 3946480 (.a0 0 (.a0 4 (.p1 0 (.j9 3899 2 (.f8 1 (.b9 2 (.a0 3 (.f9 7761242453860 (.a0 0 (.a6 (.a5 2) (.j9 3899 2 (.a6 (.a5 1) (.f6 .Eq (.a0 0 (.a6 (.a5 3) (.j9 3899 2 (.a0 2 (.a8 3 (.f8 1 (.l4 .e9))))))))))))))))))))))) (.a0 0 (.a6 (.a5 3) (.j9 3899 2 (.a0 3 (.p1 4 (.a8 2 .b8))))))))))))))))))))))))
def ti:Co:=(.b7 0 (.j6 (.b7 0 (.j6 (.a6 (.a5 0) (.a8 3 (.un 3 (.b9 3 (.b9 4 (.b9 5 (.a0 2 (.fr .i4 (.b9 6 (.j2 (.a0 6 (.a6 (vS "E") (.f6 .Eq (.br (.a0 0 (.j8 [aC,aA 0] .i4 (.b9 0 (.a0 1 (.a0 0 (.e7 (.a6 (.a5 0) (.e7 (.a6 (vS "E") (.f6 .Eq (.br (.a0 0 .k8) .n9))))))))) (.p1 0 .b8))) (.a0 1 (.a6 (.a5 0) (.e7 .b8))))))) (.b9 8 (.a0 6 (.a6 (vS "E") (.f6 .Eq (.b9 9 (.a0 1 (.a6 (.a5 1) (.e7 (.fr .i4 (.b9 7 (.a0 7 (.a6 (.a5 2) (.e7 (.a0 6 (.f6 .Eq (.br (.a0 7 (.a6 (.a5 0) (.e7 (.a0 7 (.a6 (.a5 1) (.e7 (.a8 2 (.un 2 (.b9 9 (.b9 8 .e9)))))))))) .e9))))))) (.i5 (.a0 0 (.a0 6 (.e7 (.a6 (.a5 3) (.e7 (.a6 (vS "lone") (.a6 (vS "one") (.a8 2 (.f6 .In (.br (.a0 0 (.a0 6 (.e7 (.a6 (.a5 3) (.e7 (.a6 (vS "one") (.f6 .Eq (.j2 (.a0 0 (.a0 6 (.e7 (.a6 (.a5 3) (.e7 (.a6 (vS "one") (.f6 .Eq (.br (.a6 (.a5 1) .b8) (.a0 8 (.a6 (.a5 1) (.I3 .b8))))))))))) (.a8 2 (.un 2 (.b9 9 (.b9 8 .e9)))))))))))) .e9)))))))))) (.a0 8 (.j8 [aC,aA 5] .r1 (.b9 0 (.a0 1 (.a0 0 (.j0 .Add (.a8 1 .k8))))) (.a0 5 (.a0 8 (.j0 .Add (.a8 2 (.un 2 (.a0 3 (.a0 6 (.r7 (.b9 5 (.j2 (.a0 9 (.br (.a0 3 (.a0 6 (.e7 .b8))) (.a7 0 .b8))) (.a0 4 (.a0 6 (.r7 .e9))))))))))))))))))))))))))) (.a0 3 (.a0 4 (.a8 2 .b8)))))))))))))))
def jb:Co:=(.i5 (.a0 2 (.a0 1 (.f6 .In (.br (.a0 1 (.a0 2 (.e7 .b8))) .e9)))) (.i5 (.a0 0 (.a0 2 (.e7 (.a6 (.a5 0) (.e7 (.a6 (vS "") (.f6 .NotEq (.br (.a0 0 (.a0 1 (.a0 0 (.a0 2 (.e7 (.a6 (.a5 0) (.e7 (.j9 4799 3 .b8)))))))) .e9)))))))) (.a7 0 (.b9 3 (.a0 0 (.a0 2 (.e7 (.a6 (.a5 1) (.e7 (.fr .i4 (.b9 4 (.a0 3 (.a0 0 (.a0 1 (.a0 4 (.j9 4799 3 (.j0 .Add (.b9 3 .e9)))))))) (.a0 3 (.p1 2 .b8))))))))))))
def Ul:Co:=(.i5 (.a0 3 (.a6 (.a5 0) (.e7 (.a6 (vS "none") (.a6 (vS "univ") (.a8 2 (.f6 .In (.br (.a6 (.a5 1) (.j2 (.a0 3 (.a6 (.a5 0) (.e7 (.a6 (vS "none") (.f6 .Eq (.br (.a7 0 .b8) (.a0 1 (.a6 (vS "T") (.e7 (.a0 1 (.a6 (vS "U") (.e7 (.j0 .Add (.a0 1 (.a6 (vS "E") (.e7 (.j0 .Add (.p1 1 .b8)))))))))))))))))) (.a8 2 .b8))) .e9)))))))) (.i5 (.j2 (.a0 3 (.a6 (.a5 0) (.e7 (.a6 (vS "name") (.f6 .Eq (.br (.a0 3 (.a6 (.a5 2) (.e7 (.a0 0 (.f6 .In (.br (.a6 (.e8 aB) .b8) (.a6 (.e8 aI) .b8))))))) (.a6 (.e8 aI) .b8))))))) (.br (.a6 (.a5 1) (.a0 0 (.a0 1 (.a0 3 (.a6 (.a5 2) (.e7 (.j9 4799 3 (.a8 2 .b8)))))))) .e9)) (.i5 (.a0 3 (.a6 (.a5 0) (.e7 (.a6 (vS "name") (.f6 .Eq (.br (.a0 0 (.a0 1 (.a0 2 (.a0 2 (.j8 [aC,aA 3] .i4 (.b9 0 (.a0 0 (.a6 (.a5 1) (.e7 (.a0 1 (.a6 (.a5 2) (.e7 (.f6 .Eq (.br (.a0 0 (.a6 (.a5 2) (.e7 .k8))) .n9))))))))) (.a6 (.a5 0) (.e7 (.j9 4899 4 .b8)))))))) .e9)))))) (.a0 3 (.v0 (.v6 2) (.j8 [aC,aA 2,aA 1,aA 0] .i4 (.b9 0 (.a0 3 (.a0 2 (.a0 1 (.a0 0 (.j9 4899 4 .k8)))))) (.un 2 (.un 2 (.b9 4 (.b9 5 (.un 2 (.b9 6 (.b9 7 (.i5 (.a0 3 (.a6 (.a5 0) (.e7 (.a6 (vS "arrow") (.f6 .Eq (.br (.a0 4 (.a0 6 (.j0 .Add (.a0 5 (.j8 [aC,aC,aA 7] .i4 (.b9 0 (.a0 2 (.v7 .i4 (.b9 1 (.a0 0 (.a0 1 (.j0 .Add .k8))))))) (.a8 2 .b8)))))) .e9)))))) (.a0 4 (.j2 (.a0 3 (.a6 (.a5 2) (.e7 (.a6 (vS "+") (.f6 .Eq (.br (.a0 5 (.a0 7 (.j0 .Add (.p1 2 .b8)))) (.a0 5 .b8))))))) (.a8 2 .b8)))))))))))))))))
def aFA:Co:=(.a7 0 (.j6 (.b9 3 (.a0 0 (.fr .i4 (.b9 4 (.a0 0 (.a0 4 (.e7 (.un 4 (.b9 5 (.b9 6 (.b9 7 (.b9 8 (.a0 1 (.j8 [aC,aA 4] .i4 (.b9 0 (.a0 0 (.a6 (.a5 0) (.e7 (.a0 1 (.f6 .Eq (.br (.a6 (.a5 0) (.a6 (.e8 aI) (.a0 0 (.a6 (.a5 1) (.e7 (.a8 1 (.a6 (vS "set") (.a0 0 (.a6 (.a5 2) (.e7 (.a8 5 .k8))))))))))) .n9))))))) (.p1 4 (.b9 9 (.a0 3 (.f9 7761242453860 (.a6 (vS "sig") (.a6 (.a5 0) (.a0 4 (.a8 1 (.a0 7 (.a0 8 (.a0 5 (.a0 6 (.a0 9 (.a8 0 (.a8 9 (.f8 1 (.l4 .e9)))))))))))))))))))))))))))) (.j2 (.a0 2 (.br (.a0 3 (.v0 .w7 .b8)) (.a0 3 .b8))) (.a6 (vS "open") (.a6 (.a5 0) (.a6 (vS "util/ordering") (.a6 (vS "E") (.a8 1 (.a6 (vS "o") (.a8 5 (.a7 1 (.j0 .Add .b8)))))))))))))))
def Oa:Co:=(.a6 (vS "cells") (.a0 0 (.v0 (.hi 60) (.j8 [aC] .i4 (.b9 0 (.a0 0 (.p1 6 .k8))) (.a6 (vS "spot") (.a6 (.a5 0) (.b7 2 (.j6 (.b9 1 (.a0 1 (.j9 3999 1 (.b9 2 (.a0 1 (.a0 2 (.p1 5 (.j9 4399 2 (.a0 1 (.a6 (.a5 2) (.j9 3899 2 (.a6 (.a5 1) (.f6 .Eq (.a8 2 (.un 2 (.b9 3 (.b9 4 (.a0 2 (.a0 3 (.a0 4 (.j9 4999 3 (.u0 36 1 (.b9 5 (.j2 (.a0 4 (.br (.a0 2 (.p1 5 (.v0 .w7 (.j8 [aC,aA 2] .i4 (.b9 0 (.a0 0 (.a0 1 (.a0 0 (.e7 (.a8 2 .k8)))))) (.p1 3 .b8))))) (.a0 2 .b8))) (.b9 7 (.a0 7 (.j9 4499 1 (.a0 1 (.a0 2 (.j9 4599 2 (.a8 2 (.un 2 (.b9 8 (.b9 9 (.a0 5 (.a0 5 (.u0 33 1 (.u0 24 2 (.f9 16348022075500787686 (.a0 9 (.f8 1 (.un 3 (.b9 10 (.b9 11 (.b9 12 (.a0 2 (.a0 9 (.a0 8 (.j8 [aC] .i4 (.b9 0 (.a0 0 (.a6 (vS "T") (.a6 (vS "U") (.a6 (vS "E") (.a8 3 (.f6 .In (.br (.a0 0 .k8) .n9)))))))) (.j9 4699 3 (.un 2 (.b9 13 (.b9 14 (.a7 0 (.j6 (.a7 0 (.j6 (.a8 2 (.un 2 (.b9 15 (.b9 16 (.a0 8 (.fr .i4 (.b9 6 (.a0 15 (.f9 7761242453860 (.a0 6 (.a6 (.a5 1) (.a0 14 (.f9 3797748 (.a0 6 (.a7 0 (.f8 2 (.p1 4 (.a0 2 (.a0 13 (.a0 6 (.j9 4799 3 (.p1 4 (.a8 4 (.f8 1 (.l4 (.a0 9 (.a6 (.a5 1) (.e7 (.fr .i4 (.un 3 (.b9 17 (.b9 18 (.b9 19 (.j2 (.a0 19 (.a0 6 (.f6 .Eq (.br (.a0 6 (.a0 13 (.f6 .NotIn (.br (.a6 (.e8 aB) .b8) (.a6 (.e8 aI) .b8))))) (.a6 (.e8 aI) .b8))))) (.br (.a6 (vS "count") (.a6 (vS "rel") (.a0 15 (.p1 0 (.a6 (.a5 1) (.j0 .Sub (.a8 2 (.a8 2 (.b9 20 (.a0 16 (.f9 7761242453860 (.a6 (vS "scope ") (.a0 6 (.j0 .Add (.j2 (.a0 17 (.br (.a6 (vS "eq") .b8) (.a6 (vS "le") .b8))) (.a0 20 (.a6 (vS "num") (.a0 18 (.a8 2 (.a8 3 (.a8 2 (.f8 1 (.l4 .e9))))))))))))))))))))))) .e9)))))) .e9))))))))))))))))))))))) (.a0 8 (.fr .i4 (.b9 6 (.a0 3 (.fr .i4 (.un 3 (.b9 19 (.b9 21 (.b9 22 (.a0 19 (.a0 6 (.f6 .Eq (.br (.a0 2 (.a0 13 (.a0 3 (.a0 22 (.j9 4899 4 (.un 2 (.b9 23 (.b9 24 (.a0 2 (.a0 13 (.a0 19 (.j9 4799 3 (.j8 [aC,aC,aA 24] .i4 (.b9 0 (.a0 2 (.v7 .i4 (.b9 1 (.a0 0 (.a0 1 (.j0 .Add .k8))))))) (.b9 25 (.a0 15 (.f9 7761242453860 (.a0 19 (.a6 (vS ".") (.j0 .Add (.a0 21 (.j0 .Add (.a6 (.a5 1) (.a0 23 (.j0 .Add (.a8 0 (.a0 25 (.p1 4 (.a8 4 (.f8 1 (.l4 .e9)))))))))))))))))))))))))))))) .e9)))))))) .e9))) (.a0 13 (.a6 (vS "E") (.e7 (.a0 13 (.a6 (vS "E") (.e7 (.v0 (.lo 1) (.j8 [aC,aC] .J1 (.un 2 (.b9 0 (.b9 1 (.a0 0 (.a0 1 (.j0 .Add .k8)))))) (.p1 4 (.b9 26 (.a0 15 (.f9 7761242453860 (.a6 (vS "o/next") (.a6 (.a5 2) (.a0 26 (.a0 26 (.a8 4 (.f8 1 (.l4 (.i5 (.j2 (.a0 10 (.f9 511343973 (.f8 0 (.j8 [aC,aA 10] .r1 (.b9 0 (.a0 1 (.f9 60901128036 (.a0 0 (.f8 1 .k8))))) (.a0 15 (.f6 .NotEq (.br (.a6 (.e8 aB) .b8) (.a0 12 (.a0 16 (.f6 .NotEq (.br (.a6 (.e8 aB) .b8) (.a6 (.e8 aI) .b8)))))))))))) (.br (.a6 (.e8 aI) .b8) .e9)) (.a0 11 (.a0 15 (.p1 0 (.j8 [aC,aA 15] .r1 (.b9 0 (.a0 1 (.a0 0 (.e7 (.a6 (.a5 0) (.e7 (.a0 0 (.a8 2 .k8)))))))) (.p1 3 (.f6 .Eq .b8)))))))))))))))))))))))))))))))))))))))))))))))))))))))))))))))))))))))))))))))))))))))))))))))))))
theorem zc:cB 999=aA ⟨ya,1,1,aI⟩:=by rfl'
theorem aA2:cB 1099=aA ⟨aN4,2,2,aI⟩:=by rfl'
theorem aCP:cB 1199=aA ⟨oq,2,3,aI⟩:=by rfl'
theorem zi:cB 1299=aA ⟨aOK,2,2,aI⟩:=by rfl'
theorem aBR:cB 1399=aA ⟨aPD,2,2,aI⟩:=by rfl'
theorem aCQ:cB 1500=aA ⟨qg,2,3,aI⟩:=by rfl'
theorem aB3:cB 1501=aA ⟨xl,1,1,aI⟩:=by rfl'
theorem aLC:cB 1600=aA ⟨vj,2,2,aI⟩:=by rfl'
theorem aOW:cB 1601=aA ⟨aB5,5,5,aI⟩:=by rfl'
theorem aES:cB 1602=aA ⟨aBS,4,7,aI⟩:=by rfl'
theorem aMH:cB 1603=aA ⟨aLL,4,4,aI⟩:=by rfl'
theorem aO0:cB 1604=aA ⟨wq,2,2,aI⟩:=by rfl'
theorem aLF:cB 1605=aA ⟨aI1,1,1,aI⟩:=by rfl'
theorem aNV:cB 2200=aA ⟨ik,3,7,aI⟩:=by rfl'
theorem qv:cB 2201=aA ⟨aET,4,4,aI⟩:=by rfl'
theorem aDG:cB 2202=aA ⟨aAM,2,3,aI⟩:=by rfl'
theorem aIT:cB 2203=aA ⟨aF8,2,5,aI⟩:=by rfl'
theorem aH4:cB 2204=aA ⟨mq,3,5,aI⟩:=by rfl'
theorem aDV:cB 2300=aA ⟨zx,4,4,aI⟩:=by rfl'
theorem aCV:cB 2301=aA ⟨vo,2,5,aI⟩:=by rfl'
theorem ii:cB 2302=aA ⟨aMJ,2,6,aI⟩:=by rfl'
theorem aHM:cB 2303=aA ⟨zy,3,6,aI⟩:=by rfl'
theorem aGH:cB 2400=aA ⟨aK3,3,3,aI⟩:=by rfl'
theorem aGJ:cB 2401=aA ⟨js,2,8,aB⟩:=by rfl'
theorem aM3:cB 2402=aA ⟨jy,2,20,aI⟩:=by rfl'
theorem aB1:cB 3000=aA ⟨aG9,2,2,aI⟩:=by rfl'
theorem yv:cB 3001=aA ⟨aOJ,3,3,aI⟩:=by rfl'
theorem ze:cB 3002=aA ⟨aFG,3,3,aI⟩:=by rfl'
theorem je:cB 3003=aA ⟨qt,3,4,aI⟩:=by rfl'
theorem aDA:cB 3004=aA ⟨aBP,2,3,aI⟩:=by rfl'
theorem aI9:cB 3005=aA ⟨aKQ,2,2,aI⟩:=by rfl'
theorem vd:cB 3006=aA ⟨aGS,1,1,aI⟩:=by rfl'
theorem aC0:cB 3008=aA ⟨ng,3,4,aI⟩:=by rfl'
theorem jp:cB 3009=aA ⟨aBA,3,3,aI⟩:=by rfl'
theorem aNH:cB 3010=aA ⟨aIY,3,3,aI⟩:=by rfl'
theorem aC9:cB 3100=aA ⟨pn,2,3,aI⟩:=by rfl'
theorem aLB:cB 3101=aA ⟨aNS,3,3,aI⟩:=by rfl'
theorem aI5:cB 3102=aA ⟨aA3,2,2,aI⟩:=by rfl'
theorem yf:cB 3103=aA ⟨aOQ,2,2,aI⟩:=by rfl'
theorem aNC:cB 3104=aA ⟨aHR,2,2,aI⟩:=by rfl'
theorem Xw:cB 3105=aA ⟨aCA,3,6,aI⟩:=by rfl'
theorem aEM:cB 3106=aA ⟨aNM,4,5,aI⟩:=by rfl'
theorem aKJ:cB 3107=aA ⟨qy,3,5,aI⟩:=by rfl'
theorem xq:cB 3111=aA ⟨aCY,4,5,aI⟩:=by rfl'
theorem Xy:cB 3112=aA ⟨zb,3,5,aI⟩:=by rfl'
theorem kh:cB 3200=aA ⟨aCB,4,4,aI⟩:=by rfl'
theorem aE3:cB 3202=aA ⟨aMV,5,6,aI⟩:=by rfl'
theorem Uu:cB 3203=aA ⟨aFX,5,7,aI⟩:=by rfl'
theorem aJY:cB 3204=aA ⟨ix,4,5,aI⟩:=by rfl'
theorem aFW:cB 3300=aA ⟨ie,2,3,aI⟩:=by rfl'
theorem Ed:cB 3301=aA ⟨aFO,3,8,aI⟩:=by rfl'
theorem Zi:cB 3304=aA ⟨aJN,4,6,aI⟩:=by rfl'
theorem xi:cB 3305=aA ⟨aI7,3,10,aI⟩:=by rfl'
theorem sj:cB 3306=aA ⟨sr,3,5,aI⟩:=by rfl'
theorem aIU:cB 3310=aA ⟨aLS,3,4,aI⟩:=by rfl'
theorem ME:cB 3311=aA ⟨km,3,5,aI⟩:=by rfl'
theorem aKR:cB 3600=aA ⟨zd,2,4,aI⟩:=by rfl'
theorem aF7:cB 3601=aA ⟨aLH,2,3,aI⟩:=by rfl'
theorem aJR:cB 3602=aA ⟨qm,2,3,aI⟩:=by rfl'
theorem aMO:cB 3603=aA ⟨aC5,2,2,aI⟩:=by rfl'
theorem sw:cB 3604=aA ⟨aAE,1,4,aB⟩:=by rfl'
theorem nz:cB 3605=aA ⟨rp,1,10,aB⟩:=by rfl'
theorem qp:cB 3606=aA ⟨aAD,1,9,aI⟩:=by rfl'
theorem aOY:cB 3607=aA ⟨ou,2,7,aI⟩:=by rfl'
theorem Xp:cB 3608=aA ⟨qu,1,1,aI⟩:=by rfl'
theorem tm:cB 3609=aA ⟨aOS,2,2,aI⟩:=by rfl'
theorem vf:cB 3611=aA ⟨aN9,2,2,aI⟩:=by rfl'
theorem sd:cB 3612=aA ⟨aM6,2,2,aI⟩:=by rfl'
theorem aCS:cB 3613=aA ⟨aEQ,2,2,aI⟩:=by rfl'
theorem pg:cB 3614=aA ⟨aEK,2,2,aI⟩:=by rfl'
theorem wy:cB 3615=aA ⟨aBQ,2,3,aB⟩:=by rfl'
theorem aBD:cB 3616=aA ⟨aFN,2,2,aI⟩:=by rfl'
theorem aF4:cB 3617=aA ⟨mw,2,5,aB⟩:=by rfl'
theorem ig:cB 3618=aA ⟨aJ6,2,2,aI⟩:=by rfl'
theorem qw:cB 3619=aA ⟨aK1,2,2,aI⟩:=by rfl'
theorem XR:cB 3620=aA ⟨aC7,1,1,aI⟩:=by rfl'
theorem aHN:cB 3622=aA ⟨aIQ,1,1,aI⟩:=by rfl'
theorem aFV:cB 3899=aA ⟨aML,2,3,aI⟩:=by rfl'
theorem wo:cB 3999=aA ⟨aAQ,1,4,aI⟩:=by rfl'
theorem yo:cB 4099=aA ⟨aBK,2,2,aI⟩:=by rfl'
theorem aOP:cB 4199=aA ⟨aCZ,2,4,aI⟩:=by rfl'
theorem pz:cB 4299=aA ⟨aHU,3,7,aI⟩:=by rfl'
theorem yt:cB 4399=aA ⟨aNX,2,6,aI⟩:=by rfl'
theorem aD2:cB 4499=aA ⟨xn,1,3,aB⟩:=by rfl'
theorem aCF:cB 4599=aA ⟨aK5,2,6,aI⟩:=by rfl'
theorem aFR:cB 4699=aA ⟨ti,3,10,aB⟩:=by rfl'
theorem aGG:cB 4799=aA ⟨jb,3,5,aI⟩:=by rfl'
theorem Gh:cB 4899=aA ⟨Ul,4,8,aI⟩:=by rfl'
theorem qh:cB 4999=aA ⟨aFA,3,10,aB⟩:=by rfl'
theorem aMY:cB 5099=aA ⟨Oa,1,27,aI⟩:=by rfl'
end
end Internal
open PySem PySem.W PySem.Calls PyProof.Rows
namespace Internal.S
noncomputable section
local macro_rules | `(tactic| rfl') => `(tactic| kernel_rfl)
open Internal
section
noncomputable abbrev pp:BK:=sF
def fY(c:Nat):aM:=(iG c Ai).getD 0
def fA(a:Nat):aM:=(iG a qO).getD 0
noncomputable def Ab(a:Option (Option aD))(b:aD):Bool:=a==aA (aA b)
noncomputable def Gq(a:Option (Option aD)):Bool:=a==aA aC
def uu(k:Nat):Bool:=bZ (key<|kP k) k
def MM(K:sG)(c:Nat):Bool:=
 Ab (yR K (.ref (fY c)) "__getattribute__") (.builtin "object.__getattribute__")&&(Gq (yR K (.ref (fY c)) "__getattr__")&&
 (Ab (yR K (.ref (fY c)) "__setattr__") (.builtin "object.__setattr__")&&(makesIn K (fY c)&&(plainOver K (fY c)&&((Qc K<|fY c).any (·.hasDict)&&
 ((match iG c MJ with|some l=>l.all λp=>uu p.1&&Gq (yR K (.ref (fY c))<|kP p.1)|none=>aB)&&
 (match iG c HQ with|some l=>l.all λp=>Ab (yR K (.ref (fY c))<|kP p.1) (.ref (fA p.2))&&Ab ((typeIn K<|.ref (fA p.2)).map aA) (.type "function")&& !rP c p.1|none=>aB)))))))
def Vd(b:Nat):String:=(iG b [(0,"len"),(1,"range"),(2,"sorted"),(3,"dict"),(4,"tuple"),(5,"list"),(6,"set"),(7,"isinstance"),(8,"min"),(9,"zip"),(10,"abs"),(11,"str")]).getD ""
noncomputable def XI(b:Nat):Bool:=bZ b 0||Nat.beq b 2||Nat.beq b 7||Nat.beq b 8||Nat.beq b 10
def oS(b:Nat):aD:=match XI b with
 |true=> .builtin (Vd b)
 |false=> .type (Vd b)
noncomputable def Ez:Nat->aD
 |0=> .type "int"|1=> .type "bool"|_=> .type "tuple"
def DG(K:sG)(k:Nat)(v:aD):Bool:=Gq (BL K qY<|kP k)&&(aPR (kP k)==aA v&&kP k !=("__name__":aX))
def Zk(v:V)(o:Option (Option aD)):Bool:=match o with
 |some (aA x)=>(match x with
  | .int j _=>(match v with| .a5 i=>i==j|_=>aI)
  | .str y _=>(match v with| .d9 c=>c==y&&aQ (c.length<=cF)|_=>aI)
  |_=>aI)
 |_=>aI
def Pa(K:sG)(k:Nat):G->Bool
 | .fn a=>Ab (BL K qY<|kP k)<|.ref (fA a)
 | .s5 c=>Ab (BL K qY<|kP k)<|.ref (fY c)
 | .bi b=>DG K k<|oS b
 | .ty n=>DG K k<|Ez n
 | .i4 v=>Zk v<|BL K qY<|kP k
noncomputable def Cs{a:Type}(o:dE)(d:a)(f:uQ->a):a:=match o.data with| .func b=>f b|_=>d
noncomputable def Je(o:dE)(i:Nat)(f:aX->Bool):Bool:=match o.data with| .fields a=>(match a[i]? with|some (.str x _)=>f x|_=>aI)|_=>aI
noncomputable def Io(v:aD)(f:aM->Bool):Bool:=match v with| .ref a=>f a|_=>aI
noncomputable def YQ:aD->Bool
 | .none=>aB
 |_=>aI
noncomputable def EC:List aX->Bool
 |[]=>aB
 |a::r=>r.all (λb=> !(a==b))&&EC r
def fnC(K:sG)(b:Fn)(a:uQ):Bool:=
 a.scope.names==b.i0&&(CV a.scope&&(a.params.args.map (·.arg)==b.r6&&(a.params.posonlyargs.isEmpty&&(a.params.kwonlyargs.isEmpty&&(a.params.vararg.isNone&&(a.params.kwarg.isNone&&(YQ a.defaults&&
 (bZ a.globals qY&&(bZ a.builtins Df&&(!a.scope.isCoroutine&&(!a.scope.isGenerator&&(((eD b.i0).take b.r6.length).map (·.1)==b.r6&&(b.r6.all (λp=>uY p&&(jM (key p) b.i0).any DI)&&(EC b.r6&&
 (Io a.code (λc=>(K.lookup c).any λo=>Je o 1 λq=>q==a.qualname)&&(a.closure.all (λp=>b.i0.contains (p.1,.free)&&(K.lookup p.2).isSome)&&
 (b.i0.all (λp=> !(p.2== .free)||a.closure.any λq=>q.1==p.1)&&jV a.closure.length 1)))))))))))))))))
def Mh(K:sG)(g:Nat):Bool:=(Jp g).any λa=>(K.lookup<|fA g).any λo=>Cs o aI λb=>fnC K a b
def ln(K:sG)(g:Nat)(b:uQ):Bool:=
 (b.closure.lookup ("__class__":aX)).any λi=>(K.lookup i).any λe=>(match e.data with| .cell (aA v)=>Io v λD=>(K.lookup D).any λf=>(match f.data with| .cls _=>aB|_=>aI)&&
  ((Qc K<|fY 33).any (λh=>Ab (alongIn K "__init__" ((h.mro.dropWhile (· != .ref D)).drop 1)) (.ref (fA g)))&&mroIn K (fY 33) (.ref D)==aA aB)|_=>aI)&&
 ((b.params.posonlyargs++b.params.args).head?.any (λd=>bZ (key d.arg) 511276646&&fX d.arg)&&(Io b.code λc=>(K.lookup c).any λo=>Je o 2 λa=>(pp.main.file:aX)==a))
def FW(K:sG)(f g:Nat):Bool:=(K.lookup<|fA f).any λo=>Cs o aI λa=>ln K g a&&(fnIn K (fA g)&&(K.lookup<|fA g).any λo=>o.cls== .type "function")
def Wy(K:sG):Bool:=FW K 3100 3000&&(FW K 3300 3100&&(!(pp.main.scope.names.lookup ("super":aX)).isSome&&(Gq (BL K ZR "thirdparty.any")&&(DG K 65477030642 (.type "super")&&(K.lookup<|fY 33).isSome))))
noncomputable def lo(b:Bool)(a:aM):Bool:=mX a 416==b
def HS(b:Bool)(K:sG):Bool:=
 (Ai.all λp=>lo (!b) p.2||(MM K p.1&&Dg K (.ref p.2)))&&((qO.all λp=>lo (!b) p.2||(Mh K p.1&&Dg K (.ref p.2)))&&(b||((oY.all λp=> !(kP p.1==("__debug__":aX))&&Pa K p.1 p.2)&&
 (Wy K&&(Ab (BL K qY "law") (.ref (fA 5099))&&(K.lookup ZR).isSome)))))
def Em(K:sG)(g:Nat):ZS:=((K.lookup<|fA g).map λo=>Cs o qX (·.body)).getD qX
def Ei(g:Nat):ZS:=((Jp g).map λa=> .stmts a.A4).getD qX
def AQ(b:Bool)(f:Nat->ZS):List ZS:=(qO.filter λp=>lo b p.2).map λp=>f p.1
noncomputable def EA(c:String->Option Builtin)(p:BK)(w:aW)(a:Nat)(b:Option aD):Nat->tG->Thread->Option tG
 |0,_,_=>aC
 |n+1,s,t=>match ZT t with
  |true=>aA s
  |false=>match ZU a b t with
   |false=>aC
   |true=>match stepT (Qd c) p w s t with
    |some (e,d)=>EA c p w a b n e d
    |none=>aC
noncomputable def Go:List dE->Nat->BT->BT
 |[],_,t=>t
 |o::r,i,t=>Go r (i+1)<|t.ins i o
noncomputable abbrev hB(w:aW):dW:=boot_heap w.params
abbrev tU(w:aW):Option aD:=(hB w).nsMap qY "__annotations__"
abbrev At:List kW:=behindTheImports pp
abbrev Ah:dH:={scope:=pp.main.scope,locals:=mainNs,globals:=mainNs,cells:=[],code:= .ref 13,frame:=aA 14}
noncomputable abbrev p0:cY:=⟨0,0,0,0⟩
noncomputable abbrev p1:cY:=⟨245,0,246,78⟩
abbrev sC:AB:= .body At Ah
abbrev BB:List Frame:=[Hg p0]
def Fj(w:aW):ZV:=((KN iT pp w 20000).map (·.os)).getD qX
abbrev s0(w:aW):aF:=⟨hB w, #[],Qe,boot_toks,Fj w⟩
@[irreducible] def rA(w:aW):Option (aF×Thread):=topGo iT pp w 11 (tU w) 12 (s0 w)<|ZW pp
def sA(w:aW):aF:=(rA w).elim (s0 w) (·.1)
@[irreducible] def rB(w:aW):Option (tH×aF×AB×cY):=segRun iT pp w 11 (tU w) 1 1 (sA w)<|blockOf At Ah sC p0 BB
def rM(w:aW):aF:=(rB w).elim (s0 w) (·.2.1)
def sT(w:aW):tG:=⟨Go (rM w).heap.objs.toList 0 .nil,15,(rM w).heap.life,(rM w).gens,(rM w).drawn,(rM w).toks,(rM w).os⟩
@[irreducible] def r1(w:aW):Option (tH×tG×AB×cY):=KO iT pp w 11 (tU w) 1 4000 (sT w)<|Hh (At.take 30) Ah sC p0 BB
def s1(w:aW):tG:=(r1 w).elim (sT w) (·.2.1)
def o1(w:aW)(i:Nat):dE:=((s1 w).tree.get i).getD qX
noncomputable def sx(s:String)(t:Nat):aD:= .str (cD s) t
def kv(w:aW)(s:String)(t:Nat)(v:aD):fB:=⟨Hj w.params<|cD s,sx s t,v⟩
def l3(w:aW):List fB:=[kv w "__name__" 165 (sx "relfinder.kinds" 736),kv w "__doc__" 166 .none,kv w "__package__" 167 .none,kv w "__loader__" 168 (.builtin "__main__.__loader__#opaque"),kv w "__spec__" 169 .none,kv w "__annotations__" 170 (.ref 6),kv w "__builtins__" 171 (.ref 4),kv w "__file__" 173 (sx "/claim/cut.py" 172),kv w "__cached__" 174 .none,kv w "_wall" 193 (.ref 21),kv w "FinderError" 233 (.ref 47),kv w "SpotFault" 268 (.ref 76),kv w "KindFault" 284 (.ref 88),kv w "ScopeFault" 300 (.ref 100),kv w "BoundFault" 316 (.ref 112),kv w "LimitFault" 332 (.ref 124),kv w "set_of" 340 (.ref 131),kv w "union" 348 (.ref 138),kv w "minus" 354 (.ref 143),kv w "is_within" 362 (.ref 150),kv w "product" 368 (.ref 155),kv w "Universe" 440 (.ref 207),kv w "Bounds" 544 (.ref 284),kv w "USUAL" 548 (.int (3) 547),kv w "MOST_ATOMS" 550 (.int (500) 549),kv w "MOST_TUPLES" 552 (.int (100000) 551),kv w "NOWHERE" 555 (.int (-1) 554),kv w "Numbers" 630 (.ref 331),kv w "Uppers" 692 (.ref 371),kv w "Scopes" 735 (.ref 402),kv w "TRUTH" 739 (.ref 407),kv w "NUMBER" 741 (.ref 408),kv w "OWN" 743 (sx "this/" 742),kv w "kind_text" 750 (.ref 415)]
noncomputable def f3:List (Int×Nat)->List aD
 |[]=>[]
 |(a,b)::r=> .int a 0:: .int 0 0:: .ref b::f3 r
def Gs(w:aW):List (Nat×dE):=([0,1,4,5,6,7,8,9,10,11,13,14].map λi=>(i,((sT w).tree.get i).getD qX))++[
 (2,⟨.none,aC,.dict [kv w "type.__subclasses__.Exception.0" 230 (.int 47 0),kv w "type.__subclasses__.Exception.n" 231 (.int 1 0)].toArray 2, #[]⟩),
 (3,⟨.type "dict",aC,.dict (l3 w).toArray 34, #[]⟩),
 (12,⟨.none,aC,.fields (f3 [(1,20),(5,28),(13,57),(21,84),(23,96),(25,108),(27,120),(30,130),(32,137),(34,142),(37,149),(39,154),(42,161),(68,217),(123,294),(175,341),(207,381),(245,414)]).toArray, #[]⟩)]
def Ba(f:Nat->dE)(w:aW)(i:Nat):dE:=((Gs w).lookup i).getD<|f i
def t2(f:Nat->dE)(w:aW):tG:=⟨Go ((eW 416).map<|Ba f w) 0 .nil,416,(rM w).heap.life, #[],Qe,751,Fj w⟩
@[irreducible] def r2(f:Nat->dE)(w:aW):Option (tH×tG×AB×cY):=KO iT pp w 11 (tU w) 1 4000 (t2 f w)<|Hh (At.drop 30) Ah sC p1 BB
@[irreducible] def r3(f:Nat->dE)(w:aW):Option tG:=(r2 f w).bind λx=>EA iT pp w 11 (tU w) 3 x.2.1 ⟨doneF .next,x.2.2.1,x.2.2.2,BB⟩
def s3(f:Nat->dE)(w:aW):tG:=(r3 f w).getD<|t2 f w
noncomputable def Aj(i:Nat):Bool:=mX i 416&& !(bZ i 3)
def oF(f:Nat->dE)(w:aW)(i:Nat):dE:=match Aj i with
 |true=>Ba f w i
 |false=>((s3 f w).tree.get i).getD qX
def FJ:List Nat:=[3,2,511,677,207,206,284,283,331,330,371,370,402,401,503,502,607,606,671,670,777,776,944,943]++qO.flatMap λp=>[p.2,p.2-1]
def KF(f:Nat->dE)(w:aW):sG:=FJ.map λi=>(i,oF f w i)
def KK(w:aW):sG:=KF (o1 w) w
abbrev qq:BK:=view pp [50]
abbrev Zx:List aX:=Qf pp.main.body
abbrev loose:List aX:=(pp.main.scope.names.map (·.1)).filter λn=>n !=cD "law"
def FO(b:Bool)(K:sG):Bool:=K.all λp=> !(Aj p.1==b)|| !p.2.isFreed
def JK(b:Bool)(f:Nat->dE)(w:aW):List (Option dE):=(FJ.filter λi=>Aj i==b).map (s3 f w).tree.get
def UA(w:aW)(s:aF):Bool:=staticsOk Zx (hB w) s.heap&&aPS pp s.heap&&gensDone s&&laidKept (hB w) s.heap
noncomputable abbrev Xt:aF->Bool:=λa=>aB
end
theorem zA(w:aW):(rA w).map (·.2)=aA ⟨Qd iT sC,sC,p0,BB⟩:=by rfl'
theorem zB(w:aW):(rB w).map (λx=>(x.1,x.2.2))=aA (.next,sC,p0):=by rfl'
theorem zT(w:aW):(sT w).abs=rM w:=by rfl'
theorem z0(w:aW):((hB w).isNs qY&&(#[]:Array ZX).size==0,(hB w).objs.size)=(aB,11):=by rfl'
theorem zO:opening pp=plainProg pp.main.scope.names:=by rfl'
theorem zF(s:aF):fenceModules? pp s=aA s:=by rfl'
theorem zI(f:Nat->dE):(eW 416).map (λi=>((Go ((eW 416).map f) 0 .nil).get i).getD qX)=(eW 416).map f:=by rfl'
set_option maxHeartbeats 0 in
theorem d1(w:aW):(((r1 w).map<|λx=>(x.1,x.2.2.1,x.2.2.2,x.2.1.n,x.2.1.life,x.2.1.gens,x.2.1.drawn,x.2.1.toks,x.2.1.os),(Gs w).map<|λp=>o1 w p.1),HS aB<|KK w,FO aB<|KK w,AQ aB<|Em<|KK w)=
  ((aA (.next,sC,p1,416,(rM w).heap.life, #[],Qe,751,Fj w),(Gs w).map (·.2)),aB,aB,AQ aB Ei):=by rfl'
set_option maxHeartbeats 0 in
theorem d2(w:aW)(f:Nat->dE):(((r2 f w).map<|λx=>x.1,(r3 f w).map<|λs=>(s.n,UA w s.abs)),HS aI<|KF f w,FO aI<|KF f w,(JK aB f w,(JK aI f w).all Qg),AQ aI<|Em<|KF f w)=
  ((aA .next,aA (1026,aB)),aB,aB,((FJ.filter λi=>Aj i==aB).map<|λi=>aA<|Ba f w i,aB),AQ aI Ei):=by rfl'
set_option maxHeartbeats 0 in
theorem d3(w:aW)(f:Nat->dE):(r3 f w).map (λs=>openSeen qq loose Zx Xt aB s.abs)=aA (openGood qq loose):=by rfl'
theorem zD(w:aW):FJ.all (mX · 1026)=aB:=by rfl'
theorem wi{p:BK}{w:aW}{a n:Nat}{b:Option aD}{s c:tG}{t:Thread}(h:EA iT p w a b n s t=aA c):Qh iT p w a b n s.abs t=aA c.abs:=by
 induction n generalizing s t with
 |zero=>exact nomatch h
 |succ n i=>
  have h:(match ZT t with
   |true=>aA s
   |false=>match ZU a b t with
    |false=>aC
    |true=>match stepT (Qd iT) p w s t with
     |some (c,d)=>EA iT p w a b n c d
     |none=>aC)=aA c:=h
  show(match ZT t with
   |true=>aA s.abs
   |false=>match ZU a b t with
    |false=>aC
    |true=>match step (Qd iT) p w s.abs t with
     | .go c d=>Qh iT p w a b n c d
     | .halt _ _=>aC)=aA c.abs
  cases g:ZT t with
  |true=>rw[g]at h;exact aN (hV aSR) h
  |false=>
   rw[g]at h;cases f:ZU a b t with
   |false=>rw[f]at h;exact nomatch h
   |true=>
    rw[f]at h;cases e:stepT (Qd iT) p w s t with
    |none=>rw[e]at h;exact nomatch h
    |some r=>rw[e]at h;rw[stepT_spec (t':=r.2) (s':=r.1) e];exact i h
theorem gx{c a:Type}{o:Option (c×a)}{b:a}{d:c}(h:o.map (·.2)=aA b):o=aA (o.elim d (·.1),b):=by
 induction o using jP with
 |none=>exact nomatch h
 |some x=>exact aN (λb=>aA (x.1,b))<|aV h
theorem aI3{f e b:Type}{o:Option (f×e×b)}{a:f}{c:b}{d:e}(h:o.map (λx=>(x.1,x.2.2))=aA (a,c)):o=aA (a,o.elim d (·.2.1),c):=by
 induction o using jP with
 |none=>exact nomatch h
 |some x=>obtain⟨i,g⟩:=dX<|aV h;rw[←i,←g];rfl
theorem YI{r:Option (tH×tG×AB×cY)}{d:tG}{f:tH}{c:AB}{p:cY}{n:Nat}{l:Life}{g:Array ZX}{a:Drawn}{k:Nat}{o:ZV}(h:r.map (λx=>(x.1,x.2.2.1,x.2.2.2,x.2.1.n,x.2.1.life,x.2.1.gens,x.2.1.drawn,x.2.1.toks,x.2.1.os))=aA (f,c,p,n,l,g,a,k,o)):
  r=aA (f,r.elim d (·.2.1),c,p)/\(r.elim d (·.2.1)).abs=⟨Dh (r.elim d (·.2.1)).tree n l,g,a,k,o⟩:=by
 induction r using jP with
 |none=>exact nomatch h
 |some x=>obtain⟨f,⟨T,n,l,g,d,k,o⟩,c,p⟩:=x;cases aV h;exact⟨rfl,rfl⟩
theorem UV{l:List (Nat×dE)}{i:Nat}{o:dE}(h:l.lookup i=aA o):(i,o)∈l:=by
 induction l with
 |nil=>exact nomatch h
 |cons p r a=>
  rw[KP]at h;cases e:i==p.1 with
  |true=>rw[e]at h;rw[jX e,←aV h];exact .head _
  |false=>rw[e]at h;exact .tail _ (a h)
theorem aA8{l:List (Nat×dE)}{f:Nat->dE}(h:l.map (λp=>f p.1)=l.map (·.2))(i:Nat):(l.lookup i).getD (f i)=f i:=by
 cases e:l.lookup i with
 |none=>rfl
 |some o=>exact(ZY.mp h _<|UV e).symm
theorem aH8{T b:BT}{n:Nat}{a:Life}{f:Nat->dE}(h:∀i,f i=(T.get i).getD qX)(c:(eW n).map (λi=>(b.get i).getD qX)=(eW n).map f):Dh T n a=Dh b n a:=by have:BT.list T n=BT.list b n:=(List.map_congr_left λi d=>(h i).symm).trans c.symm;unfold Dh;rw[this]
theorem zp{T:BT}{n:Nat}{l:Life}{g:Array ZX}{a:Drawn}{k:Nat}{o:ZV}:aSR ⟨T,n,l,g,a,k,o⟩=⟨Dh T n l,g,a,k,o⟩:=rfl
theorem aPE{p:BK}{w:aW}{b N M:Nat}{g:Option aD}{l:List kW}{e:dH}{c:AB}{q h:cY}{T d:tG}{R:Option (tH×tG×AB×cY)}{F:Option tG}(n:KO iT p w b g 1 N T (Hh l e c q [Hg h])=R)(i:R.map (·.1)=aA .next)
  (o:(R.bind λx=>EA iT p w b g M x.2.1 ⟨doneF .next,x.2.2.1,x.2.2.2,[Hg h]⟩)=F) (m:F.isSome=aB):Qh iT p w b g (N+M) T.abs (restOf l e c q [Hg h])=aA (F.getD d).abs:=by
 induction R using jP with
 |none=>exact nomatch i
 |some x=>
  obtain⟨f,s,u,t⟩:=x;cases aV i;induction F using jP with
  |none=>exact nomatch m
  |some r=>obtain⟨a,j,k⟩:=seg_top (res:=id) (K':=doneF) (H':=leaveH e) (B:=[Hg h]) rfl N _ (Hh l e c q [Hg h]) (restOf l e c q [Hg h]) _ _ _ _ ⟨rfl,rfl,.inl ⟨rfl,rfl,_,rfl,rfl⟩⟩<|segRun_of n;cases j;exact k M _<|wi o
theorem Js{a c:Type}{r:Option a}{f:a->c}{b:c}(d:a)(h:r.map f=aA b):r.isSome=aB/\f (r.getD d)=b:=by
 induction r using jP with
 |none=>exact nomatch h
 |some x=>exact⟨rfl,aV h⟩
theorem aAU{p q:BK}{a:List aX}{d:aF->Bool}{N M c:Nat}{w:aW}{s b:aF}(e:KN iT p w N=aA s)(g:(s.heap.isNs qY&&s.gens.size==0)=aB)(f:s.heap.objs.size=c)
  (r:Qh iT p w c (s.heap.nsMap qY "__annotations__") M s (ZW p)=aA b) (h:jV M N=aB) (j:(staticsOk (Qf p.main.body) s.heap b.heap&&aPS p b.heap&&gensDone b&&laidKept s.heap b.heap)=aB)
  (i:openSeen q a (Qf p.main.body) d aB b=openGood q a):(openEnds iT p w N).map (λs=>(openSeen q a (Qf p.main.body) d aB s,s.heap))=aA (openGood q a,b.heap):=by
 have r:=topRun_mono (N-M) _ _ _ _ r;rw[oL (bV h)]at r;have t:topFrom iT p w N s=aA b:=by
  unfold topFrom;rw[g,f,r];show(match staticsOk (Qf p.main.body) s.heap b.heap&&aPS p b.heap&&gensDone b&&laidKept s.heap b.heap with|true=>_|false=>_)=_
  rw[j]
 unfold openEnds;rw[e];show(topFrom iT p w N s).map _=_;rw[t];exact aN aA<|Qi i rfl
theorem aNJ{o:dE}(h:o.isFreed=aI):alive o=aA o:=by obtain⟨c,d,a,b⟩:=o;cases a<;>first|rfl|exact nomatch h
theorem aEC{c:List Nat}{g:Nat->dE}{T:BT}{n:Nat}{b:Life}(h:∀i∈c,i<n/\T.get i=aA (g i)/\(g i).isFreed=aI):Frag.In (c.map λi=>(i,g i)) (Dh T n b):=λa o f=>by obtain⟨i,d,e⟩:=gJ.mp<|UV f;obtain⟨p,m⟩:=dX e;obtain⟨l,k,j⟩:=h i d;rw[←p,←m,abs_get l k,aNJ j]
theorem yk{p:BK}{w:aW}{N:Nat}{h:dW}{g:Array ZX}{d:Drawn}{k:Nat}{a:ZV}(e:(KN iT p w N).map (λs=>(s.heap,s.gens,s.drawn,s.toks))=aA (h,g,d,k)):KN iT p w N=aA ⟨h,g,d,k,((KN iT p w N).map (·.os)).getD a⟩:=by
 cases q:KN iT p w N with
 |none=>rw[q]at e;exact nomatch e
 |some s=>rw[q]at e;obtain⟨f,i,j,c,b⟩:=s;cases aV e;rfl
theorem aHS{P:Nat->Bool}{f:Nat->Bool}{l:List Nat}{i:Nat}{b:Bool}(h:l.all (λi=> !(f i==b)||P i)=aB)(a:i∈l)(e:f i=b):P i=aB:=by have t:=cX.mp h i a;rw[e,lW]at t;exact t
section
variable(w:aW)
theorem c1:(r1 w).map (λx=>(x.1,x.2.2.1,x.2.2.2,x.2.1.n,x.2.1.life,x.2.1.gens,x.2.1.drawn,x.2.1.toks,x.2.1.os))=aA (.next,sC,p1,416,(rM w).heap.life, #[],Qe,751,Fj w):=(dX (dX<|d1 w).1).1
theorem c2:(Gs w).map (λp=>o1 w p.1)=(Gs w).map (·.2):=(dX (dX<|d1 w).1).2
theorem c3:HS aB (KK w)=aB:=(dX (dX<|d1 w).2).1
theorem c4:FO aB (KK w)=aB:=(dX (dX (dX<|d1 w).2).2).1
theorem c5:AQ aB (Em<|KK w)=AQ aB Ei:=(dX (dX (dX<|d1 w).2).2).2
theorem c6:(r2 (o1 w) w).map (λx=>x.1)=aA .next:=(dX (dX<|d2 w<|o1 w).1).1
theorem c7:(r3 (o1 w) w).map (λs=>(s.n,UA w s.abs))=aA (1026,aB):=(dX (dX<|d2 w<|o1 w).1).2
theorem c8:HS aI (KK w)=aB:=(dX (dX<|d2 w<|o1 w).2).1
theorem c9:FO aI (KK w)=aB:=(dX (dX (dX<|d2 w<|o1 w).2).2).1
theorem c10:JK aB (o1 w) w=(FJ.filter λi=>Aj i==aB).map (λi=>aA<|Ba (o1 w) w i):=(dX (dX (dX (dX<|d2 w<|o1 w).2).2).2).1|>λh=>(dX h).1
theorem c11:(JK aI (o1 w) w).all Qg=aB:=(dX (dX (dX (dX<|d2 w<|o1 w).2).2).2).1|>λh=>(dX h).2
theorem c12:AQ aI (Em<|KK w)=AQ aI Ei:=(dX (dX (dX (dX<|d2 w<|o1 w).2).2).2).2
theorem aF5(i:Nat):Ba (o1 w) w i=o1 w i:=aA8 (c2 w) i
theorem aE4:topGo iT pp w 11 (tU w) 12 (s0 w) (ZW pp)=rA w:=by unfold rA;rfl
theorem vg:segRun iT pp w 11 (tU w) 1 1 (sA w) (blockOf At Ah sC p0 BB)=rB w:=by unfold rB;rfl
theorem aL2:KO iT pp w 11 (tU w) 1 4000 (sT w) (Hh (At.take 30) Ah sC p0 BB)=r1 w:=by unfold r1;rfl
theorem aAX(f:Nat->dE):KO iT pp w 11 (tU w) 1 4000 (t2 f w) (Hh (At.drop 30) Ah sC p1 BB)=r2 f w:=by unfold r2;rfl
theorem aF9(f:Nat->dE):((r2 f w).bind λx=>EA iT pp w 11 (tU w) 3 x.2.1 ⟨doneF .next,x.2.2.1,x.2.2.2,BB⟩)=r3 f w:=by unfold r3;rfl
theorem wm:(s1 w).abs=(t2 (o1 w) w).abs:=by have h:(s1 w).abs=⟨Dh (s1 w).tree 416 (rM w).heap.life, #[],Qe,751,Fj w⟩:=(YI (d:=sT w)<|c1 w).2;have a:Dh (s1 w).tree 416 (rM w).heap.life=Dh (Go ((eW 416).map<|Ba (o1 w) w) 0 .nil) 416 (rM w).heap.life:=aH8 (f:=Ba (o1 w) w) (aF5 w)<|zI<|Ba (o1 w) w;rw[h,a];unfold t2;exact zp.symm
theorem aK2:Qh iT pp w 11 (tU w) (12+(1+(4000+(4000+3)))) (s0 w) (ZW pp)=aA (s3 (o1 w) w).abs:=by have f:KO iT pp w 11 (tU w) 1 4000 (sT w) (Hh (At.take 30) Ah sC p0 BB)=aA (.next,s1 w,sC,p1):=(aL2 w).trans (YI (d:=sT w)<|c1 w).1;have e:=segRun_of f;rw[zT,wm]at e;have r:=piece_app e<|aPE (d:=t2 (o1 w) w) (aAX w _) (c6 w) (aF9 w _) (Js (t2 (o1 w) w)<|c7 w).1;rw[EG]at r;have b:=(vg w).trans<|aI3 (d:=s0 w)<|zB w;have a:=(aE4 w).trans<|gx (d:=s0 w)<|zA w;have k:=piece_block (b:=At) (env:=Ah) (c:=sC) (pos:=p0) (p':=p0) (s:=sA w) (s':=rM w) b r;exact go_top (s':=sA w) a k
theorem aLI:LeftO pp qq loose Xt (λs=>s.heap) (λw=>(s3 (o1 w) w).abs.heap) 20000:=λw=>
 have l:=dX (Js (t2 (o1 w) w)<|c7 w).2;have z:=dX<|z0 w;aAU (yk (a:=qX)<|boot_open (N:=20000) zO rfl zF w) z.1 z.2 (aK2 w) rfl l.2 (Js (t2 (o1 w) w)<|d3 w<|o1 w).2
theorem pf:(KK w).In (s3 (o1 w) w).abs.heap:=by
 have l:=(dX (Js (t2 (o1 w) w)<|c7 w).2).1;refine aEC (g:=oF (o1 w) w) λi a=>⟨?_,?_,?_⟩;exact cO (bV<|cX.mp (zD w) i a)<|bW l.symm;unfold oF;cases q:Aj i with
 |true=>exact ZY.mp (c10 w) i (jA.mpr ⟨a,by rw[q];rfl⟩)
 |false=>
  obtain⟨x,d⟩:=wR.mp (cX.mp (c11 w) _ (gJ.mpr ⟨i,jA.mpr ⟨a,by rw[q];rfl⟩,rfl⟩))
  rw[d];rfl
 have c:∀b,FO b (KK w)=aB->Aj i=b->(oF (o1 w) w i).isFreed=aI:=λb h e=>(mL _).mp<|aHS (P:=λi=> !(oF (o1 w) w i).isFreed) (f:=Aj) (qZ.symm.trans h) a e;cases q:Aj i with
 |true=>exact c aB (c4 w) q
 |false=>exact c aI (c9 w) q
end
theorem Xo{c:Type}{P:c×aM->Bool}{l:List (c×aM)}(f:l.all (λp=>lo aI p.2||P p)=aB)(e:l.all (λp=>lo aB p.2||P p)=aB):∀p∈l,P p=aB:=λp d=>by
 have a:=cX.mp f p d;have b:=cX.mp e p d;unfold lo at a b;cases q:mX p.2 416 with
 |true=>rw[q]at a;exact a
 |false=>rw[q]at b;exact b
theorem xX{a b:Bool}(h:(a&&b)=aB):a=aB/\b=aB:=(oM ..).mp h
structure oJ(w:aW):Prop where
 s5:∀p∈Ai,MM (KK w) p.1=aB/\Dg (KK w) (.ref p.2)=aB
 fn:∀p∈qO,Mh (KK w) p.1=aB/\Dg (KK w) (.ref p.2)=aB
 bd:∀p∈qO,Em (KK w) p.1=Ei p.1
 gl:∀p∈oY,(kP p.1==("__debug__":aX))=aI/\Pa (KK w) p.1 p.2=aB
 i7:Wy (KK w)=aB
 R9:BL (KK w) qY "law"=aA (aA<|.ref (fA 5099))
 Q5:∃o,(KK w).lookup ZR=aA o
theorem xT(w:aW):oJ w:=by
 obtain⟨i,f⟩:=xX<|c3 w;obtain⟨f,_⟩:=xX f;obtain⟨h,e⟩:=xX<|c8 w;obtain⟨e,d⟩:=xX e;obtain⟨d,c⟩:=xX d;obtain⟨c,b⟩:=xX c;obtain⟨b,g⟩:=xX b;refine⟨λp a=>xX<|Xo (P:=λp=>MM (KK w) p.1&&Dg (KK w) (.ref p.2)) i h p a,λp a=>xX<|Xo (P:=λp=>Mh (KK w) p.1&&Dg (KK w) (.ref p.2)) f e p a,λp a=> ?_,λp a=>(xX<|cX.mp d p a).imp_left (mL _).mp,c,jX b,wR.mp g⟩;cases q:mX p.2 416 with
 |true=>exact ZY.mp (c5 w) p (jA.mpr ⟨a,by unfold lo;rw[q];rfl⟩)
 |false=>exact ZY.mp (c12 w) p (jA.mpr ⟨a,by unfold lo;rw[q];rfl⟩)
section
noncomputable abbrev Md(w:aW):=model sF w
noncomputable abbrev Bh:=List<|aM×aM
noncomputable def pY(b:Bh)(a:aM):Prop:=∃q∈b,a=q.1\/a=q.2
structure Th where
 ρ:Bh
 F:List aM
noncomputable def Th.N(b:Th)(a:aM):Prop:=pY b.ρ a\/a∈b.F
inductive RC {j:Type} (P:j->Prop) (Q:List j->Prop):List j->Prop
 |mk {x:j} {t:List j} (h:P x) (g:Q t):RC P Q (x::t)
noncomputable def F2{j y:Type}(R:j->y->Prop):List j->List y->Prop
 |[]=>λxs=>xs=[]
 |a::l=>RC (R a)<|F2 R l
theorem nn{j:Type}{a:j}{P:Prop}(h:aC=aA a):P:=HT h
section
variable{j y:Type}{R S:j->y->Prop}{l z:List j}{m B:List y}
theorem F2.j4(h:∀a∈l,∀b,R a b->S a b)(r:F2 R l m):F2 S l m:=by
 induction l generalizing m with
 |nil=>exact r
 |cons a l c=>induction r with|mk a b=>exact .mk (h _ (.head _) _ a) (c (λa d=>h a<|.tail _ d) b)
theorem F2.f7(r:F2 R l m):m.length=l.length:=by
 induction l generalizing m with
 |nil=>exact aN EH r
 |cons a l c=>induction r with|mk a b=>exact aN EI<|c b
theorem F2.p7(r:F2 R l m){i:Nat}{a:j}{b:y}(e:l[i]? =aA a)(f:m[i]? =aA b):R a b:=by
 induction l generalizing m i with
 |nil=>exact nn e
 |cons c l d=>induction r with|mk h g=>induction i using fO with
  |zero=>exact aV e▸aV f▸h
  |succ i=>exact d g e f
theorem F2.j7(r:F2 R l m)(c:F2 R z B):F2 R (l++z) (m++B):=by
 induction l generalizing m with
 |nil=>subst r;exact c
 |cons a l d=>induction r with|mk a b=>exact .mk a (d b)
theorem F2.J0(r:F2 R l m){p:j->Bool}{q:y->Bool}(h:∀a b,R a b->p a=q b):l.findIdx? p=m.findIdx? q:=by
 induction l generalizing m with
 |nil=>subst r;rfl
 |cons a l c=>induction r with|mk a b=>exact aE (KQ)<|aE (KQ)<|aE (h _ _ a)<|aE (c b) rfl
theorem F2.m9(r:F2 R l m){b:y}(h:b∈m):∃a∈l,R a b:=by
 induction l generalizing m with
 |nil=>subst r;exact(by contradiction)
 |cons a l d=>induction r with|mk r g=>exact(dA.mp h).elim (λe=>⟨a,.head _,e▸r⟩) λh=>have⟨c,i,f⟩:=d g h;⟨c,.tail _ i,f⟩
theorem F2.M3(r:F2 R l m){P:j->j->Prop}{Q:y->y->Prop}(h:∀a e b d,R a b->R e d->P a e->Q b d)(p:l.Pairwise P):m.Pairwise Q:=by
 induction l generalizing m with
 |nil=>subst r;exact .nil
 |cons a l f=>induction r with|mk r g=>cases p with|cons p q=>exact .cons (λb i=>have⟨c,n,k⟩:=g.m9 i;h _ _ _ _ r k (p c n)) (f g q)
theorem F2.p9{a:j}{b:y}(h:R a b):F2 R [a] [b]:= .mk h rfl
theorem F2.P1(r:F2 R l m)(n:Nat):F2 R (l.eraseIdx n) (m.eraseIdx n):=by
 induction l generalizing m n with
 |nil=>subst r;exact rfl
 |cons a l c=>induction r with|mk a b=>induction n using fO with
  |zero=>exact b
  |succ n=>exact .mk a (c b n)
theorem F2.M4(r:F2 R l m)(n:Nat):F2 R (l.take n) (m.take n):=by
 induction l generalizing m n with
 |nil=>subst r;(refine aE aSS ?_;refine aE aSS ?_);exact rfl
 |cons a l c=>induction n using fO with
  |zero=>exact rfl
  |succ n=>induction r with|mk a b=>exact .mk a (c b n)
theorem F2.l4(r:F2 R l m)(n:Nat):F2 R (l.drop n) (m.drop n):=by
 induction l generalizing m n with
 |nil=>subst r;(refine aE ZZ ?_;refine aE ZZ ?_);exact rfl
 |cons a l c=>induction n using fO with
  |zero=>exact r
  |succ n=>induction r with|mk a b=>exact c b n
theorem F2.w7(r:F2 R l m):F2 R l.reverse m.reverse:=by
 induction l generalizing m with
 |nil=>subst r;exact rfl
 |cons a l c=>induction r with|mk a b=>(refine aE Di ?_;refine aE Di ?_);exact(c b).j7<|.p9 a
theorem F2.at(r:F2 R l m){i:Nat}{a:j}(e:l[i]? =aA a):∃b,m[i]? =aA b/\R a b:=
 have h:m[i]? =aA _:=iA<|r.f7▸(iU.mp e).1
 ⟨_,h,r.p7 e h⟩
end
inductive RI (i:Int):aD->Prop|mk (t:Tok):RI i (.int i t)
inductive RS (c:aX):aD->Prop|mk (t:Tok) (h:c.length<=cF):RS c (.str c t)
inductive RT (N:aM->Prop) (s:aF) (P:List aD->Prop):aD->Prop
 |mk {a:aM} {vs:List aD} (ht:s.heap.IsTuple a vs.toArray) (hn:¬N a) (hl:vs.length<=cF) (hs:P vs):RT N s P (.ref a)
inductive fE (h:dW) (a:aM) (vs:List aD):Prop|mk {o:dE} {n:Nat} (g:h.get? a=aA o) (c:o.cls= .type "list") (d:o.data= .seq vs.toArray n) (dd:o.dict=aC)
theorem fE.s9{h:dW}{a:aM}{b:List aD}(x:fE h a b):h.IsList a b.toArray:=by induction x with|mk g c d _=>exact⟨_,g,c,_,d⟩
inductive RL (N:aM->Prop) (s:aF) (P:List aD->Prop):aD->Prop
 |mk {a:aM} {vs:List aD} (ht:fE s.heap a vs) (hn:¬N a) (hl:vs.length<=cF) (hs:P vs):RL N s P (.ref a)
noncomputable abbrev pH:=Int ⊕aX
noncomputable def GN:V->Option pH
 | .a5 i=>aA<|.inl i
 | .d9 s=>aA<|.inr s
 |_=>aC
noncomputable def zW(l:List (V×V)):Prop:=l.Pairwise λa b=>cN a.1 b.1=aI
structure bL(s:aF)(a:aM)(es:List fB)(P:List fB->Prop)(l:List (V×V)):Prop where
 g:∃n,s.heap.get? a=aA (jB es n)
 h3:3<a
 hl:es.length<=cF
 nd:zW l
 hs:P es
inductive RD (N:aM->Prop) (s:aF) (P:List fB->Prop) (l:List (V×V)):aD->Prop
 |mk {a:aM} {es:List fB} (d:bL s a es P l) (hn:¬N a):RD N s P l (.ref a)
inductive RR (θ:Th) (p:Nat):aD->Prop|mk {q:aM×aM} (h:θ.ρ[p]? =aA q):RR θ p (.ref q.1)
structure gC(K V:aD->Prop)(hash:Int)(c:Bool)(e:fB):Prop where
 k:K e.key
 v:V e.val
 h:e.hash=hash
 c:c=aB
def yO:V->List pH
 | .a8 l=>l.filterMap GN
 |_=>[]
noncomputable def aBM:pH->aD->Bool
 | .inl a=>aST a
 | .inr a=>Value.isStrOf a
noncomputable def aA6(w:aW):pH->Int
 | .inl a=>hashInt a
 | .inr a=>hashStr w a
def Vm(c:BK)(w:aW):PySem.KeyKind c w pH where
 is:=aBM
 hash:=aA6 w
 inj v a b h g:=by
  induction a with
  |inl a=>
   induction b with
   |inl b=>exact aN _<|Value.isInt_inj v a b h g
   |inr b=>have⟨_,e⟩:=Qj h;replace g:=e▸g;exact aZ g cC
  |inr a=>
   induction b with
   |inr b=>exact aN _<|Value.isStrOf_inj v a b h g
   |inl b=>have⟨_,e⟩:=Qj g;replace h:=e▸h;exact aZ h cC
 byValue k v h:=by
  induction k with
  |inl k=>exact(intKind c w).byValue k v h
  |inr k=>exact(Qk c w).byValue k v h
 pyHash {A E s k v Q} h q:=by
  induction k with
  |inl k=>exact(intKind c w).pyHash h q
  |inr k=>exact(Qk c w).pyHash h q
 eqBool {A E s a b u v Q} i d q:=by
  induction a with
  |inl a=>
   induction b with
   |inl b=>exact(intKind c w).eqBool i d ((show aQ (Sum.inl (β:=aX) a= .inl b)=aQ (a=b)from decide_eq_decide.mpr ⟨aSU,aN _⟩)▸q)
   |inr b=>have⟨_,e⟩:=Qj i;have⟨_,f⟩:=aPT d;(refine aE e ?_;refine aE f ?_);exact aWF _ _ _ _ c w E Q q
  |inr a=>
   induction b with
   |inl b=>have⟨_,e⟩:=aPT i;have⟨_,f⟩:=Qj d;(refine aE e ?_;refine aE f ?_);exact aWG _ _ _ _ c w E Q q
   |inr b=>exact(Qk c w).eqBool i d ((show aQ (Sum.inr (α:=Int) a= .inr b)=aQ (a=b)from decide_eq_decide.mpr ⟨aSV,aN _⟩)▸q)
 «strs» k x t v h:=by
  induction k with
  |inl k=>exact aZ h cC
  |inr k=>exact(Qk c w).strs k x t v h
abbrev Tk(w:aW):HeapKind sF w (List pH):=tupleKind<|Vm _ w
def AT(w:aW):V->Int
 | .d9 s=>hashStr w s
 | .a8 l=>(Tk w).hash<|l.filterMap GN
 |_=>0
end
section
mutual
noncomputable def Rv(w:aW)(f:Th)(s:aF):V->aD->Prop
 | .h9=>λx=>x= .none
 | .e8 b=>λx=>x= .bool b
 | .a5 i=>RI i
 | .d9 c=>RS c
 | .a8 l=>RT f.N s<|yN w f s l
 | .a7 l=>RL f.N s<|yN w f s l
 | .b7 l=>RD f.N s (Av w f s l) l
 | .a9 p=>RR f p
noncomputable def yN(w:aW)(f:Th)(s:aF):List V->List aD->Prop
 |[]=>λxs=>xs=[]
 |v::r=>RC (Rv w f s v)<|yN w f s r
noncomputable def Av(w:aW)(f:Th)(s:aF):List (V×V)->List fB->Prop
 |[]=>λxs=>xs=[]
 |(k,v)::r=>RC (gC (Rv w f s k) (Rv w f s v) (AT w k)<|iC k||gP k)<|Av w f s r
end
noncomputable abbrev Rl(w:aW)(f:Th)(s:aF):=F2<|Rv w f s
noncomputable def Rd(w:aW)(f:Th)(s:aF)(p:V×V):fB->Prop:=gC (Rv w f s p.1) (Rv w f s p.2) (AT w p.1)<|iC p.1||gP p.1
variable{w:aW}{f u B:Th}{s y C:aF}{W:List aM}
theorem GH(l:List V):yN w f s l=Rl w f s l:=by
 induction l with
 |nil=>rfl
 |cons v r a=>show RC _ (yN w f s r)=_;refine aE a ?_;rfl
theorem HH(l:List (V×V)):Av w f s l=F2 (Rd w f s) l:=by
 induction l with
 |nil=>rfl
 |cons v r a=>show RC _ (Av w f s r)=_;refine aE a ?_;rfl
theorem qT{l:List V}:Rv w f s (.a8 l)=RT f.N s (Rl w f s l):=aN (RT f.N s)<|GH l
theorem vZ{l:List V}:Rv w f s (.a7 l)=RL f.N s (Rl w f s l):=aN (RL f.N s)<|GH l
theorem uK{l:List (V×V)}:Rv w f s (.b7 l)=RD f.N s (F2 (Rd w f s) l) l:=aN (RD f.N s · l)<|HH l
structure Kp(f:Th)(s:aF)(u:Th)(y:aF):Prop where
 k:∀a o,s.heap.get? a=aA o->¬f.N a->y.heap.get? a=aA o/\¬u.N a
 r:∀(p:Nat) (q:aM×aM),f.ρ[p]? =aA q->u.ρ[p]? =aA q
theorem fE.kp(x:fE s.heap a b)(h:∀o,s.heap.get? a=aA o->y.heap.get? a=aA o):fE y.heap a b:=by induction x with|mk g c d e=>exact⟨h _ g,c,d,e⟩
theorem bL.kp{P Q:List fB->Prop}{l:List (V×V)}(x:bL s a b P l)(h:∀o,s.heap.get? a=aA o->y.heap.get? a=aA o)(c:P b->Q b):bL y a b Q l:=
 x.g.elim λn g=>
 ⟨⟨n,h _ g⟩,x.h3,x.hl,x.nd,c x.hs⟩
mutual
theorem Kp.rv(k:Kp f s u y):∀{v:V} {x:aD},Rv w f s v x->Rv w u y v x
 | .h9,_,r=>r
 | .e8 _,_,r=>r
 | .a5 _,_,r=>r
 | .d9 _,_,r=>r
 | .a8 l,_,r=>by induction r with|mk b a e c=>have⟨o,g,t⟩:=b;exact .mk ⟨o,(k.k _ _ g a).1,t⟩ (k.k _ _ g a).2 e (Kp.x8 k c)
 | .a7 l,_,r=>by induction r with|mk b a e c=>exact .mk (b.kp λo g=>(k.k _ o g a).1) (by induction b with|mk g _ _ _=>exact(k.k _ _ g a).2) e (Kp.x8 k c)
 | .b7 l,_,r=>by induction r with|mk d a=>exact .mk (d.kp (λo g=>(k.k _ o g a).1)<|Kp.E8 k) (d.g.elim λi g=>(k.k _ _ g a).2)
 | .a9 p,_,r=>by induction r with|mk h=>exact .mk (k.r _ _ h)
theorem Kp.x8(k:Kp f s u y):∀{l:List V} {xs:List aD},yN w f s l xs->yN w u y l xs
 |[],_,r=>r
 |_::_,_,r=>by induction r with|mk a b=>exact .mk (Kp.rv k a) (Kp.x8 k b)
theorem Kp.E8(k:Kp f s u y):∀{l:List (V×V)} {xs:List fB},Av w f s l xs->Av w u y l xs
 |[],_,r=>r
 |(_,_)::_,_,r=>by induction r with|mk a b=>exact .mk ⟨Kp.rv k a.k,Kp.rv k a.v,a.h,a.c⟩ (Kp.E8 k b)
end
theorem Kp.rl(k:Kp f s u y){l:List V}{xs:List aD}:Rl w f s l xs->Rl w u y l xs:=F2.j4 λa a a=>k.rv
theorem Kp.rd(k:Kp f s u y){l:List (V×V)}{xs:List fB}:F2 (Rd w f s) l xs->F2 (Rd w u y) l xs:=F2.j4 λa a a h=>⟨k.rv h.k,k.rv h.v,h.h,h.c⟩
structure Rf(w:aW)(f:Th)(s:aF)(c:Nat)(p:Nat×V)(e:fB):Prop where
 nm:∃tk,e.key= .str (kP p.1) tk
 k0:key (kP p.1)=p.1
 ok:rP c p.1=aB
 v:Rv w f s p.2 e.val
inductive qJ (w:aW) (f:Th) (s:aF) (l:List V) (q:aM×aM):Prop
 |mk {vs:List aD} {n:Nat} (e:q.2=q.1) (g:s.heap.get? q.1=aA (Hk vs.toArray n)) (hl:vs.length<=cF) (hs:Rl w f s l vs)
inductive sU (w:aW) (f:Th) (s:aF) (l:List (V×V)) (q:aM×aM):Prop
 |mk {es:List fB} {n:Nat} (e:q.2=q.1) (g:s.heap.get? q.1=aA (jB es n)) (hl:es.length<=cF) (nd:zW l) (hs:F2 (Rd w f s) l es) (hn:gE l=aB->n=es.length)
inductive wK (w:aW) (f:Th) (s:aF) (c:Nat) (fs:List (Nat×V)) (q:aM×aM):Prop
 |mk {es:List fB} {n:Nat} (e:q.1≠q.2) (hc:(iG c Ai).isSome=aB) (g:s.heap.get? q.1=aA (EJ (fY c) q.2)) (g2:s.heap.get? q.2=aA (jB es n)) (hl:es.length<=100) (hs:F2 (Rf w f s c) fs es)
noncomputable def Ro(w:aW)(f:Th)(s:aF):O->aM×aM->Prop
 | .a7 l=>qJ w f s l
 | .b7 l=>sU w f s l
 | .g9 c a=>wK w f s c a
noncomputable def Hb(q r:aM×aM):Prop:=(q.1≠r.1/\q.1≠r.2)/\q.2≠r.1/\q.2≠r.2
theorem Kp.ro(k:Kp f s u y){o:O}{q:aM×aM}(d:∀x,s.heap.get? q.1=aA x->y.heap.get? q.1=aA x)(p:∀x,s.heap.get? q.2=aA x->y.heap.get? q.2=aA x)(r:Ro w f s o q):Ro w u y o q:=by
 induction o using O.casesOn with
 |a7 l=>induction r with|mk e g b a=>exact .mk e (d _ g) b (k.rl a)
 |b7 l=>induction r with|mk e g b j a m=>exact .mk e (d _ g) b j (k.rd a) m
 |g9 c v=>induction r with|mk e n g t b a=>exact .mk e n (d _ g) (p _ t) b (a.j4 λi i i h=>⟨h.nm,h.k0,h.ok,k.rv h.v⟩)
theorem Ro.at{o:O}{q:aM×aM}(r:Ro w f s o q):(∃x,s.heap.get? q.1=aA x)/\∃x,s.heap.get? q.2=aA x:=by
 induction o using O.casesOn with
 |a7 l=>induction r with|mk e g _ _=>exact⟨⟨_,g⟩,_,e▸g⟩
 |b7 l=>induction r with|mk e g _ _ _ _=>exact⟨⟨_,g⟩,_,e▸g⟩
 |g9 c b=>induction r with|mk _ _ g a _ _=>exact⟨⟨_,g⟩,_,a⟩
noncomputable def By(h:dW):Prop:=∃a,h.Ns Df a/\∀x:aX,x≠"__name__"->a x=aPR x
structure aJ(w:aW)(A:aH)(f:Th)(s:aF):Prop where
 X:(KK w).In s.heap
 b0:By s.heap
 p8:s.gens= #[]
 f7:A.length=f.ρ.length
 w6:∀(p:Nat) (o:O) (q:aM×aM),A[p]? =aA o->f.ρ[p]? =aA q->Ro w f s o q
 o0:f.ρ.Pairwise Hb
 u3:∀a,f.N a->(KK w).lookup a=aC/\3<a
 H3:3<s.heap.objs.size
 s8:∀a,pY f.ρ a->a∉f.F
 v5:∀a,a∈f.F->a<s.heap.objs.size
structure Gd(W:List aM)(f:Th)(s:aF)(u:Th)(y:aF):Prop where
 o9:∃e,u.ρ=f.ρ++e
 fr:u.F=f.F
 o8:∀a,pY u.ρ a->pY f.ρ a\/s.heap.objs.size<=a
 i9:s.heap.objs.size<=y.heap.objs.size
 i8:∀a o,s.heap.get? a=aA o->a∉W->¬pY f.ρ a->y.heap.get? a=aA o
 os:y.os=s.os
theorem xY{a n:aM}{o:dE}{P:Prop}(h:s.heap.get? a=aA o)(g:n<=a)(z:s.heap.objs.size<=n):P:=aZ (iF h)<|eI.mpr<|aR z g
theorem Gd.n7(W:List aM)(f:Th)(s:aF):Gd W f s f s:=⟨⟨[],(fS _).symm⟩,rfl,λa=> .inl,bT _,λa a h a a=>h,rfl⟩
theorem Gd.j3(g:Gd W f s u y)(b:Gd W u y B C):Gd W f s B C:=
 g.o9.elim λe k=>
 b.o9.elim λm d=>
 ⟨⟨e++m,by rw[d,k,dK]⟩,b.fr.trans g.fr,λa h=>(b.o8 a h).elim (g.o8 a) λh=> .inr (aR g.i9 h),aR g.i9 b.i9,
  λa o h i j=>b.i8 a o (g.i8 a o h i j) i λc=>(g.o8 a c).elim j λl=>xY h l<|bT _,b.os.trans g.os⟩
theorem Gd.j4{b:List aM}(g:Gd W f s u y)(h:∀a∈W,a∈b):Gd b f s u y:=⟨g.o9,g.fr,g.o8,g.i9,λa o e c d=>g.i8 a o e (λx=>c<|h a x) d,g.os⟩
theorem Gd.t9(g:Gd [] f s u y):Gd W f s u y:=g.j4 λa h=>nomatch h
theorem Gd.kp(g:Gd W f s u y)(l:∀a∈W,a∈f.F):Kp f s u y:=
 ⟨λa o h b=>⟨g.i8 a o h (λi=>b<|.inr (l a i)) λj=>b<|.inl j,λc=>c.elim (λd=>(g.o8 a d).elim (λq=>b<|.inl q) λq=>xY h q<|bT _) λd=>b<|.inr (g.fr▸d)⟩,
  λp q h=>g.o9.elim λe k=>by exact aE k (aE (rC (iU.mp h).1)<|aE h rfl)⟩
theorem Gd.k0(g:Gd [] f s u y):Kp f s u y:=g.kp λa h=>nomatch h
theorem Au{a:Bh}{p:Nat}{q:aM×aM}(h:a[p]? =aA q):pY a q.1/\pY a q.2:=
 ⟨⟨q,fT h,.inl rfl⟩,q,fT h,.inr rfl⟩
variable{A:aH}
theorem aJ.x0(I:aJ w A f s){a:aM}(g:pY f.ρ a):∃x,s.heap.get? a=aA x:=
 g.elim λq b=>b.elim λd e=>
 (wT.mp d).elim λp c=>
 have r:=(I.w6 p _ q (iA<|I.f7▸(iU.mp c).1) c).at;e.elim (λe=>e▸r.1) λe=>e▸r.2
theorem aJ.L3(I:aJ w A f s){a:aM}(b:pY f.ρ a):a<s.heap.objs.size:=(I.x0 b).elim λc h=>iF h
theorem aJ.P2(I:aJ w A f s){a:aM}(b:f.N a):a<s.heap.objs.size:=b.elim I.L3<|I.v5 a
structure oX(w:aW)(f:Th)(a:aM):Prop where
 k:(KK w).lookup a=aC/\3<a
 n:¬f.N a
theorem aJ.o8(I:aJ w A f s){a:aM}(b:s.heap.objs.size<=a):oX w f a:=
 ⟨⟨by cases q:(KK w).lookup a with
  |none=>rfl
  |some o=>exact xY (I.X a o q) b<|bT _,cO I.H3 b⟩,λh=>aZ (I.P2 h)<|eI.mpr b⟩
structure aU(s y:aF):Prop where
 i8:∀a o,s.heap.get? a=aA o->y.heap.get? a=aA o
 i9:s.heap.objs.size<=y.heap.objs.size
 os:y.os=s.os
 p8:y.gens=s.gens
theorem aU.n7(s:aF):aU s s:=⟨λa a h=>h,bT _,rfl,rfl⟩
theorem aU.j3(g:aU s y)(b:aU y C):aU s C:=⟨λa o h=>b.i8 a o<|g.i8 a o h,aR g.i9 b.i9,b.os.trans g.os,b.p8.trans g.p8⟩
theorem aU.u4(s:aF)(o:dE)(t:Nat):aU s {s with heap:=s.heap.push o,toks:=t}:=⟨λa a h=>fC _ h,by rw[lH];exact jC _,rfl,rfl⟩
theorem aU.n6(s:aF)(t:Nat):aU s {s with toks:=t}:=⟨λa a h=>h,bT _,rfl,rfl⟩
theorem aU.gd(g:aU s y)(W:List aM)(f:Th):Gd W f s f y:=⟨⟨[],(fS _).symm⟩,rfl,λb=> .inl,g.i9,λa o h b b=>g.i8 a o h,g.os⟩
theorem aU.kp(g:aU s y):Kp f s f y:=(g.gd [] f).k0
theorem By.I9(h:By s.heap)(k:∀o,s.heap.get? Df=aA o->y.heap.get? Df=aA o):By y.heap:=
 h.elim λl i=>i.elim λe b=>e.elim λj d=>d.elim λm c=>c.elim λn a=>a.elim λg r=>
 ⟨l,⟨j,m,n,k _ g,r⟩,b⟩
theorem aJ.L0(I:aJ w A f s)(g:aU s y)(k:Kp f s u y)(e:u.ρ=f.ρ)(b:∀a∈u.F,(KK w).lookup a=aC/\3<a)(c:∀a,pY f.ρ a->a∉u.F)(d:∀a∈u.F,a<y.heap.objs.size):aJ w A u y:=
 ⟨I.X.keeps g.i8,I.b0.I9 λo=>g.i8 _ o,g.p8.trans I.p8,e▸I.f7,λp o q j i=>k.ro (λx=>g.i8 _ x) (λx=>g.i8 _ x)<|I.w6 p o q j<|e▸i,e▸I.o0,λa h=>h.elim (λh=>I.u3 a<|.inl (e▸h))<|b a,cO I.H3 g.i9,e▸c,d⟩
theorem aJ.l8(I:aJ w A f s)(g:aU s y):aJ w A f y:=I.L0 g g.kp rfl (λa h=>I.u3 a<|.inr h) I.s8 λa h=>cO (I.v5 a h) g.i9
noncomputable def Th.j5(f:Th)(l:List aM):Th:=⟨f.ρ,l++f.F⟩
theorem wI(g:aU s y){l:List aM}(i:∀a∈l,s.heap.objs.size<=a):Kp f s (f.j5 l) y:=
 ⟨λa o h d=>⟨g.i8 a o h,λb=>b.elim (λc=>d<|.inl c) λc=>(fU.mp c).elim (λq=>xY h (i a q)<|bT _) λq=>d<|.inr q⟩,λe e h=>h⟩
theorem aJ.y8(I:aJ w A f s)(g:aU s y){l:List aM}(c:∀a∈l,s.heap.objs.size<=a)(b:∀a∈l,a<y.heap.objs.size):aJ w A (f.j5 l) y:=
 I.L0 g (wI g c) rfl (λa h=>(fU.mp h).elim (λq=>(I.o8<|c a q).k) λq=>I.u3 a<|.inr q) (λa h d=>(fU.mp d).elim (λq=>aZ (I.L3 h)<|eI.mpr<|c a q)<|I.s8 a h)
  λa h=>(fU.mp h).elim (b a) λq=>cO (I.v5 a q) g.i9
theorem Aa{F:List aM}(d:∀a∈F,a∈f.F):Kp f s ⟨f.ρ,F⟩ s:=⟨λb b h n=>⟨h,λc=>n<|c.imp_right<|d _⟩,λb b h=>h⟩
theorem aJ.D8(I:aJ w A f s){F:List aM}(b:∀a∈F,a∈f.F):aJ w A ⟨f.ρ,F⟩ s:=
 I.L0 (.n7 s) (Aa b) rfl (λa h=>I.u3 a<|.inr (b a h)) (λa h c=>I.s8 a h<|b a c) λa h=>I.v5 a<|b a h
theorem Gd.I2{c:List aM}{l:List aM}(g:aU s y)(i:∀a∈l,s.heap.objs.size<=a)(G:Gd W (f.j5 l) y B C)(j:∀a∈W,a∈l\/a∈c):Gd c f s ⟨B.ρ,f.F⟩ C:=
 ⟨G.o9,rfl,λa h=>(G.o8 a h).imp_right<|aR g.i9,aR g.i9 G.i9,λa o h d e=>G.i8 a o (g.i8 a o h) (λb=>(j a b).elim (λz=>xY h (i a z)<|bT _) d) e,G.os.trans g.os⟩
theorem Pm{a:Bh}(h:a.Pairwise Hb){i j:Nat}{q r:aM×aM}(e:a[i]? =aA q)(d:a[j]? =aA r)(n:i≠j):Hb q r:=by
 have⟨c,k⟩:=iU.mp e;have⟨b,g⟩:=iU.mp d
 (refine eJ k ?_;refine eJ g ?_)
 refine(aSW n).elim (Dj.mp h i j c b) λl=> ?_;have t:=Dj.mp h j i b c l;exact⟨⟨t.1.1.symm,t.2.1.symm⟩,t.1.2.symm,t.2.2.symm⟩
end
section
variable{w:aW}{C H:aH}{y D:Th}{s B:aF}{A:bN}{E:aD->aF->Prop}
theorem Bo{c:Bh}{q:aM×aM}{a:aM}(h:pY (c++[q]) a):pY c a\/a=q.1\/a=q.2:=
 h.casesOn λr b=>b.casesOn λd e=>
 (fU.mp d).elim (λh=> .inl ⟨r,h,e⟩) λh=> .inr (dU.mp h▸e)
theorem OD{a:Bh}{q:aM×aM}(p:Nat)(r:aM×aM)(h:a[p]? =aA r):(a++[q])[p]? =aA r:=(rC (iU.mp h).1).trans h
theorem aJ.F7(I:aJ w C y s)(g:aU s B){q:aM×aM}{F:List aM}{o:O}(l:∀a∈F,a∈y.F)(i:∀a,a=q.1\/a=q.2->((KK w).lookup a=aC/\3<a)/\¬pY y.ρ a/\a∉F)(k:Kp y s ⟨y.ρ++[q],F⟩ B)(v:Ro w ⟨y.ρ++[q],F⟩ B o q):
  aJ w (C++[o]) ⟨y.ρ++[q],F⟩ B:=by
 refine⟨I.X.keeps g.i8,I.b0.I9 λo=>g.i8 _ o,g.p8.trans I.p8,?_,λp t r d c=> ?_,?_,λa h=> ?_,cO I.H3 g.i9,λa h=> ?_,λb h=>cO (I.v5 b<|l b h) g.i9⟩
 ·rw[cM,cM,I.f7];rfl
 ·refine(Dk p C.length).elim (λf=> ?_)<|λf=> ?_;rw[rC f]at d;rw[rC (I.f7▸f)]at c;exact k.ro (λx=>g.i8 _ x) (λx=>g.i8 _ x)<|I.w6 p t r d c;rw[uR f]at d;rw[uR (I.f7▸f),←I.f7]at c;generalize p-C.length=j at d c;induction j using fO with
  |zero=>exact aV d▸aV c▸v
  |succ j=>exact nn d
 ·refine pZ.mpr ⟨I.o0,Dm _ _,λr m z u=> ?_⟩;rw[dU.mp u];have n:∀a,a=q.1\/a=q.2->r.1≠a/\r.2≠a:=λa h=>⟨λe=>(i a h).2.1 ⟨r,m,.inl e.symm⟩,λe=>(i a h).2.1 ⟨r,m,.inr e.symm⟩⟩;exact⟨⟨(n _<|.inl rfl).1,(n _<|.inr rfl).1⟩,(n _<|.inl rfl).2,(n _<|.inr rfl).2⟩
 ·exact h.elim (λh=>(Bo h).elim (λz=>I.u3 a<|.inl z) λz=>(i a z).1) λh=>I.u3 a<|.inr (l a h)
 ·exact(Bo h).elim (λz A=>I.s8 a z<|l a A) λz=>(i a z).2.2
inductive Nx (w:aW) (y:Th) (s:aF) (R:V->aH->Prop) (x:aD) (B:aF):Prop
 |mk {v:V} {H:aH} {D:Th} (I:aJ w H D B) (G:Gd [] y s D B) (r:Rv w D B v x) (q:R v H)
variable{R:V->aH->Prop}{x:aD}{v:V}
theorem Nx.tr(G:Gd [] y s D B){a:aF}(n:Nx w D B R x a):Nx w y s R x a:=by induction n with|mk I b r q=>exact .mk I (G.j3 b) r q
theorem Nx.l8(I:aJ w C y s)(g:aU s B)(r:Rv w y B v x)(q:R v C):Nx w y s R x B:= .mk (I.l8 g) (g.gd _ _) r q
theorem Nx.A5(I:aJ w C y s)(r:Rv w y s v x)(q:R v C):Nx w y s R x s:= .l8 I (.n7 s) r q
theorem Nx.go{m:eC aD}{Q:aD->aF->Prop}(h:aL (Md w) A m (Nx w y s R) E s)(k:∀x B v H D,aJ w H D B->Gd [] y s D B->Rv w D B v x->R v H->Q x B):aL (Md w) A m Q E s:=
 dP h (λx B n=>by induction n with|mk I G r q=>exact k x B _ _ _ I G r q) λa a e=>e
theorem SM(I:aJ w C y s)(g:aU s B){a b:aM}(i:s.heap.objs.size<=a)(f:s.heap.objs.size<=b):Kp y s ⟨y.ρ++[(a,b)],y.F⟩ B:=
 ⟨λc o h n=>⟨g.i8 c o h,λe=>e.elim (λd=>(Bo d).elim (λz=>n<|.inl z) λz=>z.elim (λz=>xY h (z▸i)<|bT _) λz=>xY h (z▸f)<|bT _) λd=>n<|.inr d⟩,OD⟩
theorem aJ.J2(I:aJ w C y s){q:aM×aM}:(y.ρ++[q])[C.length]? =aA q:=by rw[I.f7,uR<|bT _,yT];rfl
theorem aJ.j6(I:aJ w C y s)(g:aU s B){a b:aM}{e:O}(j:s.heap.objs.size<=a)(i:s.heap.objs.size<=b)(k:Ro w ⟨y.ρ++[(a,b)],y.F⟩ B e (a,b)):
  aJ w (C++[e]) ⟨y.ρ++[(a,b)],y.F⟩ B/\Gd [] y s ⟨y.ρ++[(a,b)],y.F⟩ B:=
 have f:∀c,c=a\/c=b->s.heap.objs.size<=c:=λc h=>h.elim (λh=>h▸j) λh=>h▸i
 ⟨I.F7 g (λd h=>h) (λc h=>have F:=I.o8<|f c h;⟨F.k,λh=>F.n<|.inl h,λh=>F.n<|.inr h⟩) (SM I g j i) k,⟨[(a,b)],rfl⟩,rfl,λc h=>(Bo h).imp_right<|f c,g.i9,λc o h d d=>g.i8 c o h,g.os⟩
theorem Nx.N7(I:aJ w C y s)(g:aU s B){a:aM}{o:O}(b:s.heap.objs.size<=a)(c:Kp y s ⟨y.ρ++[(a,a)],y.F⟩ B->Ro w ⟨y.ρ++[(a,a)],y.F⟩ B o (a,a))(q:R (.a9 C.length) (C++[o])):Nx w y s R (.ref a) B:=
 have J:=I.j6 g b b<|c<|SM I g b b
 .mk (v:= .a9 C.length) J.1 J.2 (RR.mk (q:=(a,a)) I.J2) q
theorem aJ.J9(I:aJ w C y s){p:Nat}{q:aM×aM}{a:aM}{A:O}(g:y.ρ[p]? =aA q)(z:a=q.1\/a=q.2)(m:lT a s.heap B.heap)(v:B.os=s.os)(J:B.gens=s.gens)
  (F:Kp y s y B->Ro w y B A q):aJ w (C.set p A) y B/\Gd [] y s y B:=by
 have d:pY y.ρ a:=z.elim (λe=>e▸(Au g).1) λe=>e▸(Au g).2;have E:=I.u3 a<|.inl d;have c:∀b o,s.heap.get? b=aA o->b≠a->B.heap.get? b=aA o:=λb o h n=>(m.2 b n).trans h;have k:Kp y s y B:=⟨λb o h n=>⟨c b o h λe=>n<|.inl (e▸d),n⟩,λu u h=>h⟩;refine⟨⟨λb o h=>c b o (I.X b o h)<|λe=>nn<|E.1.symm.trans<|e▸h,I.b0.I9 λo h=>c _ o h λe=>aZ (e▸E.2)<|eI.mpr<|bV rfl,J.trans I.p8,(Hl ..).trans I.f7,λi o r j f=> ?_,I.o0,I.u3,m.1▸I.H3,I.s8,λb h=>m.1▸I.v5 b h⟩,
  ⟨[],(fS _).symm⟩,rfl,λu=> .inl,bW m.1.symm,λb o h u n=>c b o h λe=>n<|e▸d,v⟩
 by_cases e:p=i
 ·rw[←e]at j f;rw[aSX (I.f7▸(iU.mp g).1)]at j;exact aV j▸aV (g.symm.trans f)▸F k
 ·rw[KR e]at j;have t:=Pm I.o0 g f e;exact k.ro (λx h=>c _ x h λl=>z.elim (λe=>t.1.1<|e.symm.trans l.symm) λe=>t.2.1<|e.symm.trans l.symm) (λx h=>c _ x h λl=>z.elim (λe=>t.1.2<|e.symm.trans l.symm) λe=>t.2.2<|e.symm.trans l.symm)<|I.w6 i o r j f
structure bJ(l:List aM)(s B:aF):Prop where
 i8:∀b o,s.heap.get? b=aA o->b∉l->B.heap.get? b=aA o
 i9:s.heap.objs.size<=B.heap.objs.size
 os:B.os=s.os
 p8:B.gens=s.gens
theorem bJ.gd{l:List aM}(c:bJ l s B):Gd l y s y B:=⟨⟨[],(fS _).symm⟩,rfl,λb=> .inl,c.i9,λa o h d b=>c.i8 a o h d,c.os⟩
theorem bJ.kp{l:List aM}(c:bJ l s B)(f:∀a∈l,a∈y.F):Kp y s y B:=⟨λb o h n=>⟨c.i8 b o h λe=>n<|.inr (f b e),n⟩,λd d h=>h⟩
theorem bJ.s7{l:List aM}(c:bJ l s B)(I:aJ w C y s)(d:∀a∈l,a∈y.F):aJ w C y B:=
 have g:∀{b:aM},b∈l->_:=λh=>I.u3 _<|.inr (d _ h)
 ⟨λb o h=>c.i8 b o (I.X b o h) λe=>nn<|(g e).1.symm.trans h,I.b0.I9 λo h=>c.i8 _ o h λe=>aZ (g e).2<|eI.mpr<|bV rfl,c.p8.trans I.p8,I.f7,λi o r k j=>
  have f:=Au j
  (c.kp d).ro (λx h=>c.i8 _ x h λe=>I.s8 _ f.1<|d _ e) (λx h=>c.i8 _ x h λe=>I.s8 _ f.2<|d _ e) (I.w6 i o r k j),I.o0,I.u3,cO I.H3 c.i9,I.s8,λb h=>cO (I.v5 b h) c.i9⟩
theorem bJ.u9{a:aM}{d:dW}{t:Nat}(c:lT a s.heap d):bJ [a] s {s with heap:=d,toks:=t}:=⟨λb o h n=>(c.2 b λe=>n<|e▸ .head _).trans h,bW c.1.symm,rfl,rfl⟩
theorem qN{a b:aM}{l:List aM}(c:a∈l)(h:b∈[a]):b∈l:=dU.mp h▸c
theorem aJ.L4(I:aJ w C y s){a:aM}(d:a∈y.F){b:dW}{t:Nat}(c:lT a s.heap b):aJ w C y {s with heap:=b,toks:=t}/\Kp y s y {s with heap:=b,toks:=t}:=
 ⟨(bJ.u9 c).s7 I λe=>qN d,(bJ.u9 c).kp λe=>qN d⟩
theorem aFP{W:List aM}{a:aM}(d:a∈W){b:dW}{t:Nat}(c:lT a s.heap b):Gd W y s y {s with heap:=b,toks:=t}:=(bJ.u9 c).gd.j4 λe=>qN d
noncomputable abbrev No:aM->Prop:=λa=>False
noncomputable def Rw(w:aW)(y:Th)(s:aF):V->aD->Prop
 | .a7 l=>RL No s<|Rl w y s l
 | .b7 l=>RD No s (F2 (Rd w y s) l) l
 | .a8 l=>RT y.N s<|Rl w y s l
 |v=>Rv w y s v
theorem Rv.rw(r:Rv w y s v x):Rw w y s v x:=by
 induction v using V.casesOn with
 |a7 l=>cases(vZ▸r:RL _ _ _ x)with|mk a _ c d=>exact .mk a id c d
 |b7 l=>cases(uK▸r:RD _ _ _ _ x)with|mk a _=>exact .mk a id
 |a8 l=>rw[qT]at r;exact r
 |_=>exact r
theorem lE(I:aJ w C y s){u:V}(r:Rv w y s v x)(h:eK v C=aA u):Rw w y s u x:=by
 cases v with
 |a9 p=>
  induction r with|mk b=>
  dsimp only[eK]at h;cases d:C[p]? with
  |none=>rw[d]at h;exact nn h
  |some o=>
   rw[d]at h;have r:=I.w6 p o _ d b;induction o using O.casesOn with
   |a7 l=>induction r with|mk _ g e a=>exact aV h▸ .mk ⟨g,rfl,rfl,rfl⟩ id e a
   |b7 l=>induction r with|mk _ g e f a _=>exact aV h▸ .mk ⟨⟨_,g⟩,(I.u3 _<|.inl (Au b).1).2,e,f,a⟩ id
   |g9 c i=>exact aV h▸ .mk b
 |_=>exact aV h▸r.rw
end
section
variable{w:aW}{C z:aH}{u B:Th}{s D:aF}{A:bN}{E:aD->aF->Prop}{x y:aD}
noncomputable def Ix:V->Nat
 | .h9=>0| .e8 _=>1| .a5 _=>2| .d9 _=>3| .a8 _=>4| .a7 _=>5| .b7 _=>6| .a9 _=>7
noncomputable def vt:aD->Nat
 | .none=>0| .bool _=>1| .int _ _=>2| .str _ _=>3| .ref _=>4|_=>5
noncomputable def aOL(s:aF)(x:aD):Option aD:=match x with
 | .ref a=>(s.heap.get? a).map (·.cls)
 |_=>aC
noncomputable def NV(u:Th)(x:aD):Prop:=match x with
 | .ref a=>u.N a
 |_=>False
noncomputable def kc:Nat->Option aD
 |4=>aA (.type "tuple")|5=>aA (.type "list")|6=>aA (.type "dict")|_=>aC
structure Kd(u:Th)(s:aF)(n:Nat)(x:aD):Prop where
 v:vt x=tI n 4
 c:kc n=aC\/aOL s x=kc n
 n:NV u x↔n=7
theorem Rv.kd{a:V}(r:Rv w u s a x):Kd u s (Ix a) x:=by
 induction a using V.casesOn with
 |h9=>subst r;exact⟨rfl,.inl rfl,iI,λh=>vU h⟩
 |e8 b=>subst r;exact⟨rfl,.inl rfl,iI,λh=>nomatch h⟩
 |a5 i=>cases r;exact⟨rfl,.inl rfl,iI,λh=>nomatch h⟩
 |d9 c=>cases r;exact⟨rfl,.inl rfl,iI,λh=>nomatch h⟩
 |a8 l=>induction r with|mk f e _ _=>have⟨o,g,t,_⟩:=f;exact⟨rfl,.inr (aN (hV _) g|>.trans (aN aA t)),λh=>aZ h e,λh=>nomatch h⟩
 |a7 l=>induction r with|mk f e _ _=>induction f with|mk g t _ _=>exact⟨rfl,.inr (aN (hV _) g|>.trans (aN aA t)),λh=>aZ h e,λh=>nomatch h⟩
 |b7 l=>induction r with|mk d e=>have⟨_,g⟩:=d.g;exact⟨rfl,.inr (aN (hV _) g),λh=>aZ h e,λh=>nomatch h⟩
 |a9 p=>induction r with|mk h=>exact⟨rfl,.inl rfl,λj=>rfl,λj=> .inl (Au h).1⟩
theorem aCU:∀i,i<8->∀j,j<8->tI i 4=tI j 4/\(i=7↔j=7)/\(kc i=aC\/kc j=aC\/kc i=kc j)->i=j:=by decide+kernel
theorem TE(a:V):Ix a<8:=by cases a<;>exact bV rfl
theorem AR{a b:V}(h:Rv w u s a x)(g:Rv w u s b x):Ix a=Ix b:=
 have h:=h.kd;have g:=g.kd;aCU _ (TE a) _ (TE b) ⟨h.v.symm.trans g.v,h.n.symm.trans g.n,h.c.imp id λa=>g.c.imp id λb=>a.symm.trans b⟩
theorem nt{i j:Nat}{P:Prop}(h:i=j)(g:bZ i j=aI:=by rfl):P:=aZ (h▸g) (by rw[aPU];exact iE)
theorem aKZ{a:Bh}(h:a.Pairwise Hb){i j:Nat}{q r:aM×aM}(c:a[i]? =aA q)(b:a[j]? =aA r)(e:q.1=r.1):i=j:=aa λn=>(Pm h c b n).1.1 e
theorem yw{h:dW}{a:aM}{f e:List aD}(x:h.IsTuple a f.toArray)(y:h.IsTuple a e.toArray):f=e:=by have⟨o,g,_,n,d⟩:=x;have⟨i,b,_,j,c⟩:=y;replace d:=(aV<|g.symm.trans b)▸d;cases d.symm.trans c;rfl
theorem fE.u5{h:dW}{a:aM}{f e:List aD}(x:fE h a f)(y:fE h a e):f=e:=by
 induction x with|mk g _ d _=>induction y with|mk b _ c _=>
 replace d:=(aV<|g.symm.trans b)▸d;cases d.symm.trans c;rfl
theorem F2.u5{d c:Type}{R:d->c->Prop}{l m:List d}{xs:List c}(h:F2 R l xs)(g:F2 R m xs)(k:∀a∈l,∀b x,R a x->R b x->a=b):l=m:=by
 induction l generalizing m xs with
 |nil=>subst h;induction m using bM with
  |nil=>rfl
  |cons b m=>cases g
 |cons a l e=>induction h with|mk j i=>induction m using bM with
  |nil=>exact vR g
  |cons b m=>cases g with|mk o n=>exact aE (k a (.head _) b _ j o)<|aE (e i n λa f=>k a<|.tail _ f) rfl
noncomputable abbrev Ap(u:Th):Prop:=u.ρ.Pairwise Hb
theorem JV(P:Ap u):∀(a b:V) (x:aD),Rv w u s a x->Rv w u s b x->a=b:=by
 refine V.rec (motive_1:=λa=>∀(b:V) (x:aD),Rv w u s a x->Rv w u s b x->a=b) (motive_2:=λl=>∀a∈l,∀(b:V) (x:aD),Rv w u s a x->Rv w u s b x->a=b) (motive_3:=λl=>∀p∈l,∀(q:V×V) (x:fB),Rd w u s p x->Rd w u s q x->p=q)
  (motive_4:=λp=>∀(q:V×V) (x:fB),Rd w u s p x->Rd w u s q x->p=q) ?_ ?_ ?_ ?_ ?_ ?_ ?_ ?_ ?_ ?_ ?_ ?_ ?_
 intro b x h g;have e:=AR h g;cases b with
 |h9=>rfl
 |_=>exact nt e
 intro c b x h g;have e:=AR h g;induction b using V.casesOn with
 |e8 d=>subst h;(injection g with A;subst A);rfl
 |_=>exact nt e
 intro c b x h g;have e:=AR h g;induction b using V.casesOn with
 |a5 d=>cases h;cases g;rfl
 |_=>exact nt e
 intro c b x h g;have e:=AR h g;induction b using V.casesOn with
 |d9 d=>cases h;cases g;rfl
 |_=>exact nt e
 intro l n b x h g;have e:=AR h g;induction b using V.casesOn with
 |a8 m=>rw[qT]at h g;induction h with|mk f _ _ i=>cases g with|mk j _ _ t=>cases yw f j;exact aE (i.u5 t n) rfl
 |_=>exact nt e
 intro l n b x h g;have e:=AR h g;induction b using V.casesOn with
 |a7 m=>rw[vZ]at h g;induction h with|mk f _ _ i=>cases g with|mk j _ _ t=>cases f.u5 j;exact aE (i.u5 t n) rfl
 |_=>exact nt e
 ·intro l n b x h g;have e:=AR h g;induction b using V.casesOn with
  |b7 m=>
   rw[uK]at h g;induction h with|mk f _=>cases g with|mk j _=>
   have⟨_,I⟩:=f.g;have⟨_,H⟩:=j.g;cases(aV<|I.symm.trans H);exact aE (f.hs.u5 j.hs n) rfl
  |_=>exact nt e
 intro p b x h g;have e:=AR h g;induction b using V.casesOn with
 |a9 r=>generalize F:x=y at g;induction h with|mk h=>induction g with|mk g=>exact aN _<|aKZ P h g<|Ql F
 |_=>exact nt e
 exactλE h=>(by contradiction)
 exactλa l f i b o=>(dA.mp o).elim (λe=>e▸f)<|i b
 exactλE h=>(by contradiction)
 exactλa l f i b o=>(dA.mp o).elim (λe=>e▸f)<|i b
 exactλk v f i q x h g=>by exact aE (show k=q.1 from f _ _ h.k g.k) (aE (show v=q.2 from i _ _ h.v g.v) rfl)
noncomputable def GP(f:V->V->Option Bool)(l m:List V)(j:Nat):Bool:=((l[j]?).bind λa=>(m[j]?).bind<|f a).getD aI
theorem aNG{f:V->V->Option Bool}:∀{l m:List V} {r:Bool},qI f l m=aA r->
  ((eW<|tI l.length m.length).all (GP f l m)&&l.length==m.length)=r/\∀(j:Nat) (a b:V),l[j]? =aA a->m[j]? =aA b->f a b=aA (GP f l m j):=by
 intro l;induction l with
 |nil=>intro m r e;rw[←aV e,aPV,Nat.zero_min];exact⟨by cases m<;>rfl,λc c c h=>nn h⟩
 |cons a l s=>
  intro m r e;induction m using bM with
  |nil=>refine eJ (aV e) ?_;exact⟨Qm _,λc c c c h=>nn h⟩
  |cons b m=>
   change(f a b).bind _=aA r at e;cases d:f a b with
   |none=>replace e:=d▸e;exact nn e
   |some x=>
    replace e:=d▸e;change(qI f l m).map _=aA r at e;cases g:qI f l m with
    |none=>replace e:=g▸e;exact nn e
    |some y=>
     replace e:=g▸e;have⟨q,p⟩:=s g;refine⟨?_,λj o n k i=> ?_⟩;rw[←aV e,←q,AC,AC,Nat.add_min_add_right,aPW,Dn,qZ,Bool.and_assoc,show GP f (a::l) (b::m) 0=x from aN (KT · aI) d];show(x&&(_&&(l.length+1==m.length+1)))=_;rw[show(l.length+1==m.length+1)=(l.length==m.length)from decide_eq_decide.mpr Nat.succ_inj];rfl;induction j using fO with
     |zero=>(refine eJ (aV k) ?_;refine eJ (aV i) ?_;refine aE d ?_);exact aN aA (aN (KT · aI) d).symm
     |succ j=>exact p j o n k i
theorem XN{f:V->V->Option Bool}(g:∀a r,f a a=aA r->r=aB)(l:List V){r:Bool}(e:qI f l l=aA r):r=aB:=by
 induction l generalizing r with
 |nil=>exact(aV e).symm
 |cons a l d=>
  change(f a a).bind _=aA r at e;cases c:f a a with
  |none=>replace e:=c▸e;exact nn e
  |some x=>
   replace e:=c▸e;change(qI f l l).map _=aA r at e;cases b:qI f l l with
   |none=>replace e:=b▸e;exact nn e
   |some y=>replace e:=b▸e;(refine eJ (aV e) ?_;refine aE (g _ _ c) ?_;refine aE (d b) ?_);rfl
theorem Yh(n:Nat):∀(a:V) (r:Bool),lD n a a=aA r->r=aB:=by
 induction n with
 |zero=>exactλd d e=>nn e
 |succ n c=>
  intro a r e;induction a using V.casesOn with
  |h9=>exact(aV e).symm
  |e8 b=>exact(aV e).symm.trans<|lW b
  |a5 b=>exact(aV e).symm.trans<|lW b
  |d9 b=>exact(aV e).symm.trans<|lW b
  |a8 l=>exact XN c l e
  |a7 l=>change(if l.length==l.length then _ else _)=_ at e;rw[lW,bO rfl]at e;exact XN c l e
  |_=>exact nn e
structure rR(A:bN)(s:aF)(x y:aD)(r:Bool):Prop where
 rc:aPX A s x y r
 ne:aSY A s x y !r
 eq:(x=y->r=aB)->Qn A s x y r
noncomputable def Vj(w:aW)(u:Th)(s:aF)(n:Nat):Prop:=∀(a b:V) (x y:aD) (r:Bool) {A:bN},A.units+n+2<dO->Rw w u s a x->Rw w u s b y->lD n a b=aA r->rR A s x y r
theorem rR.go{n:Nat}{a b:V}{r:Bool}(k:rR A s x y r)(P:Ap u)(d:Rv w u s a x)(c:Rv w u s b y)(e:lD n a b=aA r):Qn A s x y r:=k.eq λh=>Yh n a r<|JV P _ _ _ (h▸d) c▸e
open PySem.SeqAt in
theorem VH(P:Ap u){n:Nat}{l m:List V}{c b:List aD}{r:Bool}(t:Vj w u s n)(v:A.units+(n+1)+2<dO)(d:Rl w u s l c)(a:Rl w u s m b)(e:qI (lD n) l m=aA r):
  (∀j (g:j<c.toArray.size) (f:j<b.toArray.size),Qn A.in1 s c.toArray[j] b.toArray[j]<|GP (lD n) l m j)/\((eW<|tI c.toArray.size b.toArray.size).all (GP (lD n) l m)&&c.toArray.size==b.toArray.size)=r:=by
 have⟨q,p⟩:=aNG e;refine⟨λj g f=> ?_,?_⟩
 ·have i:l[j]? =aA _:=iA<|d.f7▸g;have h:m[j]? =aA _:=iA<|a.f7▸f;have o:=d.p7 i<|iA g;have k:=a.p7 h<|iA f;exact(t _ _ _ _ _ (show A.units+1+n+2<dO by rw[kX A.units,kY 1 n];exact v) o.rw k.rw (p j _ _ i h)).go P o k (p j _ _ i h)
 ·(refine eJ q ?_;refine eJ d.f7 ?_;refine eJ a.f7 ?_);rfl
open PySem.SeqAt in
theorem BE(P:Ap u):∀(n:Nat),Vj w u s n
 |0,_,_,_,_,_,_,_,_,_,e=>nn e
 |n+1,a,b,x,y,r,A,N,v,i,e=>by
  have f:A.units<dO:=fZ (dI _<|n+3) N;have p:∀{c d:aM},aPX A s (.ref c) (.ref d) r->(tJ c= .ref d->r=aB)->Qn A s (.ref c) (.ref d) r:=λ{c d} k h=>by
   by_cases q:c=d
   ·(refine aE (h<|aN _ q) ?_;refine aE q ?_);exact .same _
   exact .of_refs q k
  induction a using V.casesOn with
  |h9=>cases v;induction b using V.casesOn with
   |h9=>subst i;exact aV e▸⟨.none_none,.none_none,λj=> .same _⟩
   |d9 c=>induction i;exact aV e▸⟨.none_str _ _,.none_str _ _,λj=> .none_str _ _⟩
   |a8 m=>induction i with|mk h _ _ _=>exact aV e▸⟨.none_tuple h f,.none_tuple h f,λj=> .none_tuple h f⟩
   |_=>exact nn e
  |e8 c=>cases v;induction b using V.casesOn with
   |e8 d=>subst i;exact aV e▸⟨.bool_bool _ _,.bool_bool _ _,λj=> .bool_bool _ _⟩
   |_=>exact nn e
  |a5 c=>induction v;induction b using V.casesOn with
   |a5 d=>induction i;exact aV e▸⟨.int_int _ _ _ _,.int_int _ _ _ _,λj=> .int_int _ _ _ _⟩
   |_=>exact nn e
  |d9 c=>induction v;induction b using V.casesOn with
   |h9=>subst i;exact aV e▸⟨.str_none _ _,.str_none _ _,λj=> .str_none _ _⟩
   |d9 d=>induction i;exact aV e▸⟨.str_str _ _ _ _,.str_str _ _ _ _,λj=> .str_str _ _ _ _⟩
   |a8 m=>induction i with|mk h _ _ _=>exact aV e▸⟨.str_tuple _ _ h f,.str_tuple _ _ h f,λj=> .str_tuple _ _ h f⟩
   |_=>exact nn e
  |a8 l=>induction v with|mk g _ _ I=>induction b using V.casesOn with
   |h9=>subst i;exact aV e▸⟨.tuple_none g f,.tuple_none g f,λj=> .tuple_none g f⟩
   |d9 d=>induction i;exact aV e▸⟨.tuple_str _ _ g f,.tuple_str _ _ g f,λj=> .tuple_str _ _ g f⟩
   |a8 m=>
    induction i with|mk t _ _ o=>
    have⟨H,J⟩:=VH P (BE P n) N I o e;have k:=RcAt.tuples g t f H;have F:=RcNeAt.tuples g t f H;rw[J]at k F;exact⟨k,F,p k⟩
   |_=>exact nn e
  |a7 l=>cases b with
   |a7 m=>
    induction v with| @mk c M g _ _ I=>induction i with| @mk d L t _ _ o=>
    change(if l.length==m.length then _ else _)=_ at e
    (replace e:=(I.f7).symm▸e;replace e:=(o.f7).symm▸e)
    have k:aPX A s (.ref c) (.ref d) r/\aSY A s (.ref c) (.ref d) !r:=by
     cases K:M.length==L.length with
     |true=>
      (replace e:=K▸e;replace e:=(bO rfl)▸e)
      have⟨H,J⟩:=VH P (BE P n) N I o e;have E:M.toArray.size=L.toArray.size:=jX K;have k:=RcAt.lists g.s9 t.s9 E f H;have F:=RcNeAt.lists g.s9 t.s9 E f H;rw[←E,aSZ,lW,aPY]at J;rw[J]at k F;exact⟨k,F⟩
     |false=>
      (replace e:=K▸e;replace e:=(bH cC)▸e)
      have E:(M.toArray.size !=L.toArray.size)=aB:=aN oK K;exact aV e▸⟨RcAt.lists_lengths g.s9 t.s9 E f,RcNeAt.lists_lengths g.s9 t.s9 E f⟩
    exact⟨k.1,k.2,p k.1⟩
   |_=>exact nn e
  |_=>exact nn e
end
end
end Internal.S
open PySem.SeqAt (EqAt RcAt RcNeAt)
namespace Internal.S
noncomputable section
local macro_rules | `(tactic| rfl') => `(tactic| kernel_rfl)
open Internal
section
variable{w:aW}{o g:aH}{d n:Th}{s f:aF}{A:bN}{E:aD->aF->Prop}{x y:aD}{a b:V}{r:Bool}
theorem um{m k:Nat}(h:A.units+m<dO)(a:jV k m=aB:=by rfl):A.units+k<dO:=fZ (fG (bV a) _) h
theorem aL7(l b:aM):Builtin.«tuple.__lt__» ⟨[.ref l,.ref b],[]⟩=(do
  if !(←ak (.ref b) (.type "tuple"))then return ←ret .notImplemented
  let xs ←aPZ (.ref l)
  let a ←aPZ (.ref b)
  for (x,y)in xs.toList.zip a.toList do
   if !(←eqBool x y)then
    yU "tuple.compare.by-the-first-pair-that-differs";return ←ret (←aP0 .Lt x y)
  ret (aWH .Lt xs.size a.size)):=by rfl'
theorem IE{Q:aD->aF->Prop}(e:Rw w d s a x)(c:Rw w d s b y)(h:DR a b=aA r)(q:Q (.bool r) s):aL (Md w) A (aP0 .Lt x y) Q E s:=by
 induction a using V.casesOn with
 |a5 i=>induction e;induction b using V.casesOn with
  |a5 j=>induction c;exact wpAny_lt_int<|aV h▸q
  |_=>exact nn h
 |d9 i=>induction e;induction b using V.casesOn with
  |d9 j=>induction c;cases aV h;exact lt_str q
  |_=>exact nn h
 |_=>exact nn h
inductive Ic (w:aW) (d:Th) (s:aF) (r z:Bool) (rest:List (aD×aD)) (b:Option Hm×Unit) (f:aF):Prop
 |mk {la lb:List V} {vs ws:List aD} (e:vs.zip ws=rest) (hb:b=(aC,())) (hs:f=s) (ra:Rl w d s la vs) (rb:Rl w d s lb ws) (h:DF la lb=aA r) (hz:z=aQ (vs.length<ws.length))
theorem nu(P:Ap d){l b:aM}{m j:List V}{i t:List aD}{Q:Hm->aF->Prop}(M:A.units+10<dO)(R:s.heap.IsTuple l i.toArray)(y:s.heap.IsTuple b t.toArray)
  (x:Rl w d s m i) (u:Rl w d s j t) (N:DF m j=aA r) (q:Q (.done (.ret (.bool r))) s):
  aL (Md w) A (Builtin.«tuple.__lt__» ⟨[.ref l,.ref b],[]⟩) Q E s:=by
 rw[aL7];refine aK ?_;unfold ak;refine aK<|AD (T:= "tuple") y.typeIs ?_;rw[show ao (.type "tuple") (.type "tuple")=bB aB from AutoSeq1.sub_tuple_tuple];refine bA ?_;refine aE (bH (by decide)) ?_
 refine aK (aP1 R<|aK<|aP1 y<|aK ?_);refine aq _ (Ic w d s r<|aQ<|i.length<t.length) _ ?_ ?_ _ _ ⟨rfl,rfl,rfl,x,u,N,rfl⟩
 ·intro p K c f I;induction I with| @mk m j i t e y F x u h D=>
  induction i using bM with
  |nil=>exact Fh e
  |cons v i=>induction t using bM with
   |nil=>exact Fh e
   |cons L t=>
    have⟨U,S⟩:=BM e
    (refine eJ U ?_;refine aE F ?_)
    induction m using bM with
    |nil=>exact vR (show v::i=[]from x)
    |cons a m=>cases x with|mk J Y=>cases j with
     |nil=>exact vR (show L::t=[]from u)
     |cons b j=>cases u with|mk H X=>
      change(lD 1 a b).bind _=aA r at h;cases z:lD 1 a b with
      |none=>replace h:=z▸h;exact nn h
      |some k=>
       replace h:=z▸h;refine aK ((BE P 1 _ _ _ _ _ (show A.units+3<dO from um M) J.rw H.rw z).go P J H z _ _ _ _ ?_);induction k using eT with
       |true=>exact bA ⟨S,rfl,rfl,Y,X,h,D.trans<|decide_eq_decide.mpr aS0⟩
       |false=>exact aK (BN (aK (IE J.rw H.rw h (aK (bA (bA (show aL _ _ _ _ _ _ from bA q)))))))
 ·intro c f I;induction I with| @mk m j C B e y F x u h D=>
  (refine aE y ?_;refine aE F ?_)
  have:aQ (i.length<t.length)=r:=by
   refine aE D ?_;induction C using bM with
   |nil=>induction m using bM with
    |nil=>induction j using bM with
     |nil=>subst u;exact aV h
     |cons b j=>cases u;exact aV h
    |cons a m=>cases x
   |cons v i=>induction m using bM with
    |nil=>exact vR x
    |cons a m=>induction B using bM with
     |cons _ _=>exact vR e
     |nil=>induction j using bM with
      |nil=>exact aV h
      |cons b j=>cases u
  exact bA (show Q (.done (.ret (.bool (aQ<|i.length<t.length)))) s from this▸q)
theorem zf(P:Ap d){Q:aD->aF->Prop}(u:A.units+20<dO)(j:Rw w d s a x)(e:Rw w d s b y)(h:Dc a b=aA r)(q:Q (.bool r) s):
  aL (Md w) A (aP0 .Lt x y) Q E s:=by
 induction a using V.casesOn with
 |a8 l=>induction b using V.casesOn with
  |a8 m=>
   induction j with|mk p _ _ v=>induction e with|mk c _ _ t=>
   refine wpAny_richCompare_same_room (op:= .Lt) p.typeIs c.typeIs aS1 ?_ (um u (k:=0));refine nN aS1 p.typeIs F.entry_tuple_lt ?_<|F.args_tuple_lt_2 _ _;exact nu P (show A.units+11<dO from um u) p c v t h ⟨_,rfl,(λx=>(by contradiction)),q⟩
  |_=>exact nn h
 |a5 i=>exact IE j e h q
 |d9 i=>exact IE j e h q
 |_=>exact nn h
end
section
variable{w:aW}{H C:aH}{B F:Th}{s I:aF}{A:bN}{E:aD->aF->Prop}{x y:aD}{k:V}{l:List (V×V)}{u:List fB}
noncomputable abbrev Sk(w:aW):=Qk sF w
noncomputable def qV:aD->aX
 | .str c _=>c
 |_=>yQ
structure Rk(w:aW)(B:Th)(s:aF)(p:V×V)(e:fB):Prop where
 k:p.1= .d9 (qV e.key)
 i:(Sk w).is (qV e.key) e.key=aB
 h:e.hash=(Sk w).hash (qV e.key)
 l:(qV e.key).length<=cF
 v:Rv w B s p.2 e.val
theorem Rd.d9{p:V×V}{e:fB}(r:Rd w B s p e)(h:iC p.1=aB):Rk w B s p e:=by
 have⟨a,b,c,_⟩:=r;cases f:p.1 with
 |d9 z=>rw[f]at a c;generalize d:e.key=y at a;induction a with|mk t g=>exact⟨by refine aE d ?_;exact f,by refine aE d ?_;exact aP2 _ w z t,by refine aE d ?_;exact c,by refine aE d ?_;exact g,b⟩
 |_=>replace h:=f▸h;exact aZ h cC
theorem CR(a:F2 (Rd w B s) l u)(h:gE l=aB):F2 (Rk w B s) l u:=a.j4 λp b c r=>r.d9<|cX.mp h p b
theorem Ja(a b:aX):cN (.d9 a) (.d9 b)=aQ (a=b):=aS2 a b
def vE(e:fB):aX×aD:=(qV e.key,e.val)
theorem Ia{a:aM}{n:Nat}(g:s.heap.get? a=aA (jB u n))(d:bL s a u (F2 (Rd w B s) l) l)(h:gE l=aB):s.heap.DictAt (Sk w) a (u.map vE) n:=by
 have r:=CR d.hs h;refine⟨_,u.toArray,g,⟨rfl,rfl,rfl⟩,rfl,λe b=>(r.m9<|yV.mpr b).elim λp c=>c.elim λv r=>⟨_,r.i,r.h⟩,?_,?_⟩;show aS3 _ u _;clear d g;induction u generalizing l with
 |nil=>exact .nil
 |cons e u k=>induction l using bM with
  |nil=>exact vR r
  |cons p l=>cases r with|mk j i=>exact .cons j.i rfl (k (cX.mpr λp m=>cX.mp h p<|.tail _ m) i)
 refine aE kL ?_;exact AE.mpr (r.M3 (λp q e f t o n b=>by rw[t.k,o.k,Ja,show qV e.key=qV f.key from b,cU rfl]at n;exact iE n) d.nd)
theorem DM{a:aM}(d:bL s a u (F2 (Rd w B s) l) l)(h:gE l=aB):s.heap.DictOf (Sk w) a (u.map vE):=d.g.elim λb g=>(Ia g d h).dictOf
theorem UX(x:Bool)(o:Option Bool):(o.map (x&&·)).getD aI=(x&&o.getD aI):=by cases o<;>cases x<;>rfl
theorem Za{p q r:Prop} [Decidable p] [Decidable q] [Decidable r](h:r↔p/\q):(aQ p&&aQ q)=aQ r:=by rw[←Bool.decide_and];exact decide_eq_decide.mpr h.symm
theorem Kw{a b:pH}{l m:List pH}:a::l=b::m↔a=b/\l=m:=aS4 .. ▸au
theorem Xz(n:Nat):∀(l m:List V),l.all En=aB->m.all En=aB->(qI (lD<|n+1) l m).getD aI=aQ (l.filterMap GN=m.filterMap GN)
 |[],[],_,_=>rfl
 |[],b::m,_,h=>by
  have h:=(oM ..).mp h;induction b using V.casesOn with
  |a5 j=>rfl
  |d9 j=>rfl
  |_=>exact aZ h.1 cC
 |a::l,[],h,_=>by
  have h:=(oM ..).mp h;induction a using V.casesOn with
  |a5 j=>rfl
  |d9 j=>rfl
  |_=>exact aZ h.1 cC
 |a::l,b::m,h,g=>by
  have h:=(oM ..).mp h;have g:=(oM ..).mp g;have c:=Xz n l m h.2 g.2;induction a using V.casesOn with
  |a5 i=>induction b using V.casesOn with
   |a5 j=>exact(UX _ _).trans<|c▸Za (p:=i=j) (Kw.trans ⟨λe=>⟨aSU e.1,e.2⟩,λe=>⟨aN _ e.1,e.2⟩⟩)
   |d9 j=>exact(fM λe:Sum.inl i::_=Sum.inr j::_=>nomatch (Kw.mp e).1).symm
   |_=>exact aZ g.1 cC
  |d9 i=>induction b using V.casesOn with
   |d9 j=>exact(UX _ _).trans<|c▸(aS2 i j)▸Za (p:=i=j) (Kw.trans ⟨λe=>⟨aSV e.1,e.2⟩,λe=>⟨aN _ e.1,e.2⟩⟩)
   |a5 j=>exact(fM λe:Sum.inr i::_=Sum.inl j::_=>nomatch (Kw.mp e).1).symm
   |_=>exact aZ g.1 cC
  |_=>exact aZ h.1 cC
theorem Jf{a b:V}(h:gP a=aB)(g:gP b=aB):cN a b=aQ (yO a=yO b):=by
 induction a using V.casesOn with
 |a8 l=>induction b using V.casesOn with
  |a8 m=>exact Xz 38 l m h g
  |_=>exact aZ g cC
 |_=>exact aZ h cC
theorem zm{l:List V}{c:List aD}(r:Rl w B s l c)(h:l.all En=aB):ItemsAre (Vm sF w) (l.filterMap GN) c:=by
 induction l generalizing c with
 |nil=>subst r;exact .nil
 |cons a l b=>
  have h:=(oM ..).mp h;induction r with|mk d e=>
  have b:=b e h.2;induction a using V.casesOn with
  |a5 i=>induction d with|mk t=>exact .cons (cU rfl:aST i (.int i t)=aB) b
  |d9 i=>induction d with|mk t=>exact .cons (aP2 sF w i t) b
  |_=>exact aZ h.1 cC
theorem FV(r:Rv w B s k x)(h:gP k=aB):∃a,x= .ref a/\(Tk w).is s.heap (yO k) a/\AT w k=(Tk w).hash (yO k):=by
 induction k using V.casesOn with
 |a8 l=>replace r:=qT▸r;induction r with|mk b _ _ c=>have⟨o,d,f,n,e⟩:=b;exact⟨_,rfl,⟨o,_,n,d,f,e,zm c h⟩,rfl⟩
 |_=>exact aZ h cC
structure Rx(w:aW)(s:aF)(p:V×V)(q:List pH×aM×aD):Prop where
 t:gP p.1=aB
 k:q.1=yO p.1
 i:(Tk w).is s.heap q.1 q.2.1
theorem re(c:F2 (Rd w B s) l u)(h:l.all (λp=>gP p.1)=aB):∃xs,u=xs.map (entryOfKey<|Tk w)/\F2 (Rx w s) l xs:=by
 induction l generalizing u with
 |nil=>subst c;exact⟨[],rfl,rfl⟩
 |cons p l f=>
  have h:=(oM ..).mp h;induction c with| @mk e u b d=>
  have⟨xs,j,g⟩:=f d h.2;have⟨a,m,i,k⟩:=FV b.k h.1;exact⟨(yO p.1,a,e.val)::xs,by(refine aE sH ?_;refine aE j ?_);exact aN (· ::_) (by cases e;subst m;cases b.h.trans k;rfl),.mk ⟨h.1,rfl,i⟩ g⟩
structure CL(w:aW)(s:aF)(d:aM)(l:List (V×V))(k:V)(x:aD)(A:bN):Prop where
 h:∃t,∀{E:aD->aF->Prop} {Q:Int->aF->Prop},Q (AT w k) {s with toks:=t}->aL (Md w) A (pyHash x) Q E s
 f:∀{t:Nat} {E:aD->aF->Prop} {Q:Option Nat->aF->Prop},Q (l.findIdx? λp=>cN p.1 k) {s with toks:=t}->aL (Md w) A (dictFind d x<|AT w k) Q E {s with toks:=t}
theorem TS{d:aM}(D:bL s d u (F2 (Rd w B s) l) l)(K:Rv w B s k x)(m:dY k l=aB)(P:A.units<dO):CL w s d l k x A:=by
 have⟨n,g⟩:=D.g;rcases(BO ..).mp m with m|m
 ·have⟨b,h⟩:=(oM ..).mp m;induction k using V.casesOn with
  |d9 c=>induction K with|mk t hl=>
   have N:=aP2 sF w c t;have r:=CR D.hs h;refine⟨⟨_,λq=>(Sk w).pyHash N q⟩,λ{t E Q} q=>wpAny_dictFind_of (knd:=Sk w) (s:={s with toks:=t}) N g rfl (λe J=>(r.m9<|yV.mpr J).elim λp v=>v.elim λL r=>⟨_,r.i,r.h⟩) ?_⟩
   have e:l.findIdx? (λp=>cN p.1<|.d9 c)=u.findIdx? λe=>(Sk w).is c e.key:=r.J0 λp e r=>by rw[r.k,Ja,KeyKind.is_eq_decide r.i c];exact decide_eq_decide.mpr eq_comm
   rw[List.findIdx?_toArray,←e];exact q
  |_=>exact aZ b cC
 have⟨b,h⟩:=(oM ..).mp m;have⟨xs,ex,r⟩:=re D.hs h;have⟨a,e1,i,S⟩:=FV K b;refine aE e1 ?_;have e:l.findIdx? (λp=>cN p.1 k)=xs.findIdx? λq=>aQ (q.1=yO k):=r.J0 λp q r=>by exact aE (Jf r.t b) (aE r.k rfl)
 have M:(xs.map (·.1)).Nodup:=AE.mpr (r.M3 (λp q e f b h n J=>by(replace n:=(Jf b.t h.t)▸n;replace n:=(b.k).symm▸n;replace n:=(h.k).symm▸n;replace n:=(cU J)▸n);exact iE n) D.nd)
 refine⟨⟨_,λq=>(Tk w).pyHash P i<|S▸q⟩,λ{t E Q} q=> ?_⟩;refine aE S ?_;refine wpAny_dictFind_heap (knd:=Tk w) (s:={s with toks:=t}) P i g rfl ex (λx X=>(r.m9 X).elim λL o=>o.elim λL r=>r.i) M (λT=> ?_) λj p y=> ?_
 rw[e,aP3.mpr λz U=>fM λe=>(wT.mp U).elim λj y=>T j z.2<|e▸y]at q;exact q;have:xs.findIdx? (λq=>aQ<|q.1=yO k)=aA j:=by
  cases R:xs.findIdx? (λq=>aQ<|q.1=yO k)with
  |none=>exact aZ rfl<|pM<|aP3.mp R _<|fT y
  |some i=>have⟨Y,Z,_⟩:=aP4.mp R;exact aN aA<|idxH_unique (p:=xs[i].2) M ((iA Y).trans<|aN aA<|Qi (bQ Z) rfl) y
 (replace q:=e▸q;replace q:=this▸q)
 exact q
end
section
variable{w:aW}{H B:aH}{j C:Th}{s I:aF}{A:bN}{E:aD->aF->Prop}{x y z:aD}{k v:V}{l:List (V×V)}{u:List fB}{d:aM}
theorem jN{n:Nat}(h:n<=cF):n<=rD:=aR h (by refine aE av ?_;exact bV rfl)
theorem AM{n:Nat}(h:n<=cF):(n:Int)<2^63:=Qo (Do.mpr h) (by decide)
theorem wH{a:aM}(h:3<a):(a==aP5)=aI:=beq_eq_false_iff_ne.mpr λe=>aZ (e▸h) (by decide)
abbrev fd(k:V)(l:List (V×V)):Option Nat:=l.findIdx? λp=>cN p.1 k
theorem Gp(k v:V)(l:List (V×V)):gV k v l=match fd k l with|some i=>l.modify i λp=>(p.1,v)|none=>l++[(k,v)]:=by
 induction l with
 |nil=>rfl
 |cons p l a=>
  show(if cN p.1 k then(p.1,v)::l else p::gV k v l)=_;unfold fd;refine aE (KQ) ?_;cases cN p.1 k with
  |true=>rfl
  |false=>
   refine aE a ?_;show p::(match fd k l with|some i=>_|none=>_)=match(fd k l).map (· +1)with|some i=>_|none=>_
   cases fd k l<;>rfl
theorem aNA(k:V)(l:List (V×V)):dF k l=(fd k l).bind λi=>(l[i]?).map (·.2):=by
 induction l with
 |nil=>rfl
 |cons p l a=>
  show(if cN p.1 k then aA p.2 else dF k l)=_;unfold fd;refine aE (KQ) ?_;cases cN p.1 k with
  |true=>rfl
  |false=>rw[a];show(fd k l).bind _=((fd k l).map (· +1)).bind _;cases fd k l<;>rfl
noncomputable def Jr(w:aW)(j:Th)(s:aF)(o:Option V)(a:Option aD):Prop:=match o with
 |none=>a=aC
 |some v=>∃z,a=aA z/\Rv w j s v z
theorem Mi(D:bL s d u (F2 (Rd w j s) l) l)(c:Rv w j s k x)(m:dY k l=aB)(f:A.units<dO){Q:Option aD->aF->Prop}(q:∀t o,Jr w j s (dF k l) o->Q o {s with toks:=t}):aL (Md w) A (Qp d x) Q E s:=by
 have F:=TS D c m f;have⟨t,h⟩:=F.h;have⟨n,g⟩:=D.g;unfold Qp;refine fV<|aK<|h<|aK<|F.f ?_;rw[aNA]at q;cases a:fd k l with
 |none=>refine aE (show l.findIdx? (λp=>cN p.1 k)=aC from a) ?_;replace q:=a▸q;exact bA<|q t _ rfl
 |some i=>
  refine aE (show l.findIdx? (λp=>cN p.1 k)=aA i from a) ?_;replace q:=a▸q;have⟨r,_⟩:=aP4.mp a;have b:=iA r;have⟨e,y,v⟩:=D.hs.at b;refine aK (aw (s:={s with toks:=t}) g rfl (bA<|q t _ ?_))
  show Jr w j s ((l[i]?).map (·.2)) ((u.toArray[i]?).map (·.val));rw[b,wV,y];exact⟨_,rfl,v.v⟩
theorem bL.ty{P:List fB->Prop}(D:bL s d u P l):s.TypeIs (.ref d) "dict":=D.g.elim λa g=>⟨_,g,rfl⟩
theorem tz(D:bL s d u (F2 (Rd w j s) l) l)(b:Rv w j s k x)(f:dY k l=aB)(c:A.units+1<dO){Q:aD->aF->Prop}(q:∀t,Q (.bool (dF k l).isSome) {s with toks:=t}):aL (Md w) A (yW .In x<|.ref d) Q E s:=by
 have T:=D.ty;show aL _ _ (do return .bool (←ax (.ref d) x)) Q E s
 refine aK ?_;unfold ax;refine fV<|aK<|ay T aP6.lookup ?_;show aL _ _ (if(aA (aS5 "dict.__contains__")==aA AF)=aB then _ else _) _ E s;rw[bH (by rw[beq_builtin_none];exact cC)]
 refine aK (wpAny_callSpecialUnlessNone?_slot (name:=cD "__contains__") T aP6<|nN aP6 T entry_dict_contains ?_<|args_dict_contains _ _);show aL _ _ (Qp d x>>=_) _ _ s;refine aK<|Mi D b f c λt o h=> ?_;cases a:dF k l with
 |none=>rw[a]at h q;refine aE (show o=aC from h) ?_;show aL _ _ (aWI d x>>=_) _ _ _;exact aK<|wpAny_pendingKey_other (wH D.h3)<|bA ⟨_,rfl,Hn<|bA<|q t⟩
 |some v=>rw[a]at h q;have⟨z,e,_⟩:=h;refine aE e ?_;show aL _ _ (ret<|.bool aB) _ _ _;exact bA ⟨_,rfl,Hn<|bA<|q t⟩
theorem aK0(D:bL s d u (F2 (Rd w j s) l) l)(a:Rv w j s k x)(f:dY k l=aB)(b:dF k l=aA v)(c:A.units+1<dO){Q:aD->aF->Prop}(q:∀t z,Rv w j s v z->Q z {s with toks:=t}):aL (Md w) A (KU (.ref d) x) Q E s:=by
 have T:=D.ty;unfold KU;refine fV (aK (aP7 T (by decide) ?_))
 refine aK (wW (name:=cD "__getitem__") T aP8<|nN aP8 T entry_dict_getitem ?_<|args_dict_getitem _ _);show aL _ _ (Qp d x>>=_) _ _ s;refine aK<|Mi D a f c λt o h=> ?_;replace h:=b▸h;have⟨z,e,r⟩:=h;refine aE e ?_;exact bA ⟨z,rfl,bA<|q t z r⟩
theorem jd(D:bL s d u (F2 (Rd w j s) l) l)(c:Rv w j s k x)(b:Rv w j s v y)(g:dY k l=aB)(f:A.units+1<dO){Q:aD->aF->Prop}(q:∀t z,Rv w j s ((dF k l).getD v) z->Q z {s with toks:=t}):aL (Md w) A (fK (.builtin "dict.get") [.ref d,x,y]) Q E s:=by
 have T:=D.ty;refine nN aS6 T PySem.F.entry_dict_get ?_<|PySem.F.args_dict_get_3 _ _ _;show aL _ _ (Qp d x>>=_) _ _ s;refine aK<|Mi D c g f λt o h=> ?_;cases a:dF k l with
 |none=>rw[a]at h q;refine aE (show o=aC from h) ?_;show aL _ _ (aWJ d x>>=_) _ _ _;exact aK<|wpAny_missed_other (wH D.h3)<|bA ⟨_,rfl,q t y b⟩
 |some v=>rw[a]at h q;have⟨z,e,r⟩:=h;refine aE e ?_;exact bA ⟨_,rfl,q t z r⟩
theorem F2.O9{d c:Type}{R:d->c->Prop}{f:d->d}{g:c->c}{l:List d}{m:List c}(h:F2 R l m)(k:∀a b,R a b->R (f a) (g b))(i:Nat):F2 R (l.modify i f) (m.modify i g):=by
 induction l generalizing m i with
 |nil=>subst h;rw[az,az];exact rfl
 |cons a l o=>induction h with|mk n e=>induction i using fO with
  |zero=>exact .mk (k _ _ n) e
  |succ i=>exact .mk n (o e i)
theorem NZ(v:V)(l:List (V×V))(i:Nat):(l.modify i λp=>(p.1,v)).map (·.1)=l.map (·.1):=by
 induction l generalizing i with
 |nil=>rw[az]
 |cons p l a=>induction i using fO with
  |zero=>rfl
  |succ i=>exact aN (_::·)<|a i
theorem qf(h:zW l):zW (gV k v l):=by
 rw[Gp];cases g:fd k l with
 |none=>exact pZ.mpr ⟨h,Dm _ _,λp d q c=>dU.mp c▸aP3.mp g p d⟩
 |some i=>have e:∀m:List (V×V),zW m↔(m.map (·.1)).Pairwise λa b=>cN a b=aI:=λm=>(AE (f:=λp:V×V=>p.1) (R:=λa b=>cN a b=aI)).symm;exact(e _).mpr<|NZ v l i▸(e l).mp h
theorem KA:(gV k v l).length<=l.length+1:=by
 rw[Gp];cases fd k l with
 |none=>exact bW cM
 |some i=>exact uS<|bW<|aP9 ..
structure kK(w:aW)(j:Th)(s:aF)(d:aM)(u:List fB)(n:Nat)(l:List (V×V))(h':dW)(es':List fB)(n':Nat):Prop where
 g:h'.get? d=aA (jB es' n')
 u9:lT d s.heap h'
 r:F2 (Rd w j s) l es'
 nd:zW l
 ep:n=u.length->n'=es'.length
theorem OP{n:Nat}(g:s.heap.get? d=aA (jB u n))(D:bL s d u (F2 (Rd w j s) l) l)(J:Rv w j s k x)(z:Rv w j s v y)(L:dY k l=aB)(R:A.units<dO){Q:Unit->aF->Prop}
  (q:∀t M o P,kK w j s d u n (gV k v l) M o P->Q () {s with heap:=M,toks:=t}):aL (Md w) A (ba d x y) Q E s:=by
 have F:=TS D J L R;have⟨t,h⟩:=F.h;have c:(iC k||gP k)=aB:=by
  rcases(BO ..).mp L with h|h
  rw[((oM ..).mp h).1];rfl;rw[((oM ..).mp h).1,Qq]
 unfold ba;refine fV<|aK<|h ?_;unfold dictSetHashed;refine fV<|aK<|F.f ?_;have K:zW (gV k v l):=qf D.nd;have e:=Gp k v l;cases m:fd k l with
 |none=>
  rw[show l.findIdx? (λp=>cN p.1 k)=aC from m];rw[m]at e;have b:(jB u n).mapDictKeys (λl=>l.push ⟨AT w k,x,y⟩)=jB (u++[⟨AT w k,x,y⟩]) (n+1):=aN (λa=>(⟨_,_,.dict a (n+1),_⟩:dE))<|aQA ..;refine aK (BN (wpAny_updateDictKeys (hz:=jN D.hl) (s:={s with toks:=t}) g rfl (q t _ (u++[⟨AT w k,x,y⟩]) (n+1) ⟨?_,qA ..,?_,K,λh=>by rw[h,cM];rfl⟩)))
  exact aE (wX _ g (by rw[b];rfl)) (aE b rfl)
  rw[e];exact D.hs.j7<|.p9 ⟨J,z,rfl,c⟩
 |some i=>
  rw[show l.findIdx? (λp=>cN p.1 k)=aA i from m];rw[m]at e;have b:(jB u n).mapDict (λl=>l.modify i λe=>{e with val:=y})=jB (u.modify i λe=>{e with val:=y}) n:=aN (λa=>(⟨_,_,.dict a n,_⟩:dE))<|List.modify_toArray ..
  refine aK (BN (aK (wpAny_updateDict (s:={s with toks:=t}) g rfl (wpAny_point (q t _ (u.modify i λe=>{e with val:=y}) n ⟨?_,qA ..,?_,K,λh=>by rw[h,aP9]⟩)))))
  rw[wX _ g (by refine aE b ?_;rfl),b]
  refine aE e ?_;exact D.hs.O9 (f:=λp=>(p.1,v)) (g:=λe=>{e with val:=y}) (λN N r=>⟨r.k,z,r.h,r.c⟩) i
theorem ym{n:Nat}(g:s.heap.get? d=aA (jB u n))(D:bL s d u (F2 (Rd w j s) l) l)(f:Rv w j s k x)(e:Rv w j s v y)(i:dY k l=aB)(h:A.units+1<dO){Q:Unit->aF->Prop}
  (q:∀t b a c,kK w j s d u n (gV k v l) b a c->Q () {s with heap:=b,toks:=t}):aL (Md w) A (setItem (.ref d) x y) Q E s:=by
 have T:=D.ty;unfold setItem;refine fV (aK (aP7 T (by decide) ?_))
 refine aK (wW (name:=cD "__setitem__") T aS7<|nN aS7 T entry_dict_setitem ?_<|args_dict_setitem _ _ _);show aL _ _ (aWK "__setitem__" ⟨[.ref d,x,y],[]⟩>>=_) _ _ s;refine aK<|aQB T ?_;show aL _ _ (ba d x y>>=_) _ _ s;exact aK<|OP g D f e i h λt b a c S=>bA ⟨.none,rfl,bA<|q t b a c S⟩
end
open PySem.SeqAt (EqAt RcAt RcNeAt)
section
variable{w:aW}{C J:aH}{B K:Th}{s F:aF}{A:bN}{E:aD->aF->Prop}{x y z:aD}{a b k v:V}{l:List (V×V)}{H:List fB}{d:aM}{r:Bool}{R:V->aH->Prop}
theorem ob{c b:Type}{o:Option c}{f:c->Option b}{r:b}(h:o.bind f=aA r):∃a,o=aA a/\f a=aA r:=by
 induction o using jP with
 |none=>exact nn h
 |some a=>exact⟨a,rfl,h⟩
theorem om{c b:Type}{o:Option c}{f:c->b}{r:b}(h:o.map f=aA r):∃a,o=aA a/\f a=r:=EF.mp h
noncomputable abbrev tk(s:aF)(t:Nat):aF:={s with toks:=t}
theorem F2.N3{c b:Type}{R:c->b->Prop}{l:List c}{m:List b}(h:F2 R l m):m.toArray.isEmpty=l.isEmpty:=by
 induction l using bM with
 |nil=>subst h;rfl
 |cons a l=>cases h;rfl
theorem qd{M:Model}{A:bN}{E:aD->aF->Prop}{s:aF}{g d:Type}{m:eC g}{f:g->eC d}{Q:d->aF->Prop}(h:aL M A (m>>=f) Q E s):
  ∀b p,b.In A->Sem.wp M b m (λa j F=>Sem.wp M b (f a) (λa i F=>Q a F) (λe i F=>E e F) j F) (λe i F=>E e F) p s:=λb p c=>by
 have:=h b p c;rwa[Sem.wp_bind']at this
theorem aDM{M:Model}{A:bN}{E:aD->aF->Prop}{s:aF}{c x:aD}{Q:Bool->aF->Prop}(h:∀Q':aD->aF->Prop,(∀b d,Q b d->Q' (.bool b) d)->aL M A (yW .In x c) Q' E s):
  aL M A (ax c x) Q E s:=λi p g=>
 Sem.wp_mono M i _ (λa f F (q:∀b,KV a= .bool b->Q b F)=>q a rfl) (λf f f q=>q) p s (qd (h (λv F=>∀b,v= .bool b->Q b F) λb f q a e=>Value.bool.inj e▸q) i p g)
theorem Kq(I:aJ w C B s)(r:Rv w B s a x){b:Bool}(h:yC a C=aA b){Q:Bool->aF->Prop}(q:∀t,Q b<|tk s t):aL (Md w) A (Qr x) Q E s:=by
 obtain⟨u,k,d⟩:=ob h;have r:=lE I r k;induction u using V.casesOn with
 |h9=>subst r;exact truthy_none<|aV d▸q s.toks
 |e8 c=>subst r;exact Hn<|aV d▸q s.toks
 |a5 i=>cases r;exact aWL<|aV d▸q s.toks
 |d9 c=>
  induction r with|mk t f=>
  refine PySem.P.truthy_str (Int.not_le.mpr<|AM f) ?_;have e:((c.length:Int) !=0)=(c.cps.size !=0):=by show((c.cps.size:Int) !=0)=_;cases c.cps.size<;>rfl
  (refine aE e ?_;refine aE (show(c.cps.size !=0)=b from aV d) ?_);exact q _
 |a8 l=>induction r with|mk g _ f j=>exact aWM g (AM f) (by(refine aE j.N3 ?_;refine aE (show(!l.isEmpty)=b from aV d) ?_);exact q _)
 |a7 l=>induction r with|mk g _ f j=>exact wpAny_truthy_list g.s9 (AM f) (by(refine aE j.N3 ?_;refine aE (show(!l.isEmpty)=b from aV d) ?_);exact q _)
 |_=>exact nn d
theorem aLT(I:aJ w C B s)(r:Rv w B s a x)(h:iX 0 a C=aA v)(q:R v C):aL (Md w) A (fK (.builtin "len") [x]) (Nx w B s R) E s:=by
 obtain⟨u,i,b⟩:=ob h;have r:=lE I r i;have c:∀{n m:Nat} {t u:Nat},n=m->V.a5 m=v->Nx w B s R (.int n u) (tk s t):=λk j=>k▸ .l8 I (.n6 s _) (j▸ .mk _) q;induction u using V.casesOn with
 |a8 l=>induction r with|mk d _ f e=>exact aWN d (AM f)<|c e.f7<|aV b
 |a7 l=>induction r with|mk d _ f e=>exact Calls.call_len_list d.s9 (AM f)<|c e.f7<|aV b
 |b7 l=>
  induction r with|mk D _=>
  change gI (gE l) _=_ at b;cases g:gE l with
  |false=>replace b:=g▸b;exact nn b
  |true=>replace b:=g▸b;exact call_len_dict (wH D.h3) (DM D g) (by rw[bP];exact AM D.hl) (c ((bP _).trans D.hs.f7)<|aV b)
 |_=>exact nn b
theorem aL9{l:List V}:∀{r:Bool},tV a l=aA r->(∀y∈l,∃b,jS y a=aA b)/\(r=aB↔∃y∈l,jS y a=aA aB):=by
 induction l with
 |nil=>intro r h;exact⟨(λn h=>nomatch h),λe=>aZ ((aV h).trans e) cC,λi=>i.elim λn j=>j.elim λh n=>nomatch h⟩
 |cons c l t=>intro r h;obtain⟨p,m,w⟩:=ob h;obtain⟨q,v,s⟩:=om w;obtain⟨u,o⟩:=t v;refine⟨λy d=>(dA.mp d).elim (λe=>⟨p,e▸m⟩)<|u y,λe=> ?_,λf=>f.elim λy g=>g.elim λd e=> ?_⟩;exact((BO ..).mp<|s.trans e).elim (λe=>⟨c,.head _,e▸m⟩) λe=>(o.mp e).elim λy k=>k.elim λa b=>⟨y,.tail _ a,b⟩;refine s.symm.trans<|(BO ..).mpr<|(dA.mp d).imp (λx=> ?_) λd=>o.mpr ⟨y,d,e⟩;exact aV<|m.symm.trans<|x▸e
open Classical in
def NO(w:aW)(B:Th)(s:aF)(a:V)(l:List V)(z:aD):Bool:=aQ<|∃v∈l,Rv w B s v z/\jS v a=aA aB
theorem F2.N8{c e:Type}{R:c->e->Prop}{l:List c}{m:List e}(r:F2 R l m){a:c}(h:a∈l):∃b∈m,R a b:=
 (wT.mp h).elim λi f=>
 (r.at f).elim λb d=>d.elim λj g=>
 ⟨b,fT j,g⟩
open Classical in
theorem WX(P:Ap B)(I:A.units+50<dO){l:List V}{o:List aD}(u:Rl w B s l o)(y:Rw w B s a x)(E:∀v b,Rv w B s v x->jS v a=aA b->b=aB)(h:tV a l=aA r):(∀z∈o.toArray,Qn A.in1 s z x<|NO w B s a l z)/\o.toArray.any (NO w B s a l)=r:=by
 obtain⟨M,L⟩:=aL9 h;refine⟨λz m=> ?_,?_⟩;have⟨v,c,d⟩:=u.m9<|yV.mpr m;obtain⟨b,n⟩:=M v c;have k:=(BE P 40 _ _ _ _ _ (show A.in1.units+42<dO from(um I:A.units+43<dO)) d.rw y n).eq λe=>E v b (e▸d) n;have e:b=NO w B s a l z:=by
  induction b using eT with
  |true=>exact(cU ⟨v,c,d,n⟩).symm
  |false=>exact(fM λ⟨N,_,D,e⟩=>by(replace e:=(JV P _ _ _ D d)▸e;replace e:=n▸e);exact aZ (aV e) cC).symm
 exact e▸k;rw[Dp,L,List.any_toArray,Ho];refine⟨λi=>i.elim λz j=>j.elim λm e=>(bQ e).elim λv t=>t.elim λc q=>q.elim λQ e=>⟨v,c,e⟩,λf=>f.elim λv g=>g.elim λc e=>(u.N8 c).elim λz p=>p.elim λm d=>⟨z,m,cU ⟨v,c,d,e⟩⟩⟩
theorem SW(P:Ap B)(d:Rv w B s a x){u:V}(h:eK a C=aA u)(v:V)(b:Bool)(c:Rv w B s v x)(e:jS v u=aA b):b=aB:=by
 have i:=JV P _ _ _ c d;induction a using V.casesOn with
 |a9 p=>rw[i]at e;exact nn e
 |_=>(replace e:=i▸e;replace e:=(show _=u from aV h).symm▸e);exact Yh 40 _ b e
theorem aDI{u:V}(b:eK a C=aA u)(c:dY u l=aB):a=u:=by
 cases a with
 |a9 p=>
  dsimp only[eK]at b;cases d:C[p]? with
  |none=>replace b:=d▸b;exact nn b
  |some o=>replace b:=d▸b;cases o<;>(replace c:=(aV b).symm▸c;exact aZ c cC)
 |_=>exact aV b
theorem Wn(I:aJ w C B s)(k:A.units+60<dO)(c:Rv w B s a x){u:V}(d:eK a C=aA u)(g:Rw w B s b y)(h:uZ u b=aA r){Q:aD->aF->Prop}(q:∀t,Q (.bool r)<|tk s t):aL (Md w) A (yW .In x y) Q E s:=by
 induction b using V.casesOn with
 |a8 l=>induction g with|mk m _ _ n=>have⟨j,i⟩:=WX I.o0 (um k) n (lE I c d) (SW I.o0 c d) h;exact PySem.SeqAt.in_tupleAt _ m j<|i▸q s.toks
 |a7 l=>induction g with|mk m _ _ n=>have⟨j,i⟩:=WX I.o0 (um k) n (lE I c d) (SW I.o0 c d) h;exact PySem.SeqAt.in_listAt _ m.s9 j<|i▸q s.toks
 |b7 l=>
  induction g with|mk D _=>
  change(match dY u l with|true=>aA (dF u l).isSome|false=>aC)=_ at h
  cases f:dY u l with
  |false=>replace h:=f▸h;exact nn h
  |true=>replace h:=f▸h;have e:a=u:=aDI d f;rw[←e]at h f;exact tz D c f (um k)<|aV h▸q
 |_=>exact nn h
theorem aNB(q:aX×aD)(m:List (aX×aD))(c:aX):valueAt (q::m) c=if q.1=c then aA q.2 else valueAt m c:=by
 show((q::m).find? λa=>aQ<|a.1=c).map (·.2)=_;refine aE (aQC) ?_;by_cases h:q.1=c
 ·(refine aE (cU h) ?_;refine aE (bO h) ?_);rfl
 (refine aE (fM h) ?_;refine aE (bH h) ?_);rfl
theorem aJZ(c:aX)(a:F2 (Rk w B s) l H):Jr w B s (dF (.d9 c) l) (valueAt (H.map vE) c):=by
 induction l generalizing H with
 |nil=>subst a;rfl
 |cons p l d=>
  induction a with| @mk e H b f=>
  rw[sH,aNB];show Jr w B s (if cN p.1 (.d9 c)then aA p.2 else dF (.d9 c) l) (if qV e.key=c then aA e.val else _);rw[b.k,Ja];by_cases h:qV e.key=c
  ·(refine aE (bO<|cU h) ?_;refine aE (bO h) ?_);exact⟨_,rfl,b.v⟩
  (refine aE (bH<|λe=>h<|bQ e) ?_;refine aE (bH h) ?_);exact d f
theorem te(P:Ap B)(t:A.units+50<dO){a:List (V×V)}{n:List fB}(u:F2 (Rk w B s) a n){r:Bool}(i:F2 (Rk w B s) l H)(h:AZ a l=aA r):PySem.W.KeqHits A.in1 s (n.map vE) (H.map vE) r:=by
 induction l generalizing H r with
 |nil=>subst i;exact aV h▸ .nil
 |cons p l o=>
  induction i with| @mk e H d I=>
  have g:=aJZ (qV e.key) u;change(match dF p.1 a with|none=>aA aI|some y=>(jS p.2 y).bind λp=>(AZ a l).map λq=>p&&q)=_ at h
  replace h:=d.k▸h;cases j:dF (.d9 (qV e.key)) a with
  |none=>rw[j]at g h;exact aV h▸ .miss (k:=qV e.key) g
  |some v=>rw[j]at g h;obtain⟨z,L,f⟩:=g;obtain⟨b,m,E⟩:=ob h;obtain⟨c,D,x⟩:=om E;exact x▸ .hit (k:=qV e.key) L ((BE P 40 _ _ _ _ _ (show A.in1.units+42<dO from(um t:A.units+43<dO)) d.v.rw f.rw m).go P d.v f m) (o I D)
theorem rj(P:Ap B)(f:A.units+60<dO){l m:List (V×V)}{c d:aM}{H o:List fB}(D:bL s c H (F2 (Rd w B s) l) l)(a:bL s d o (F2 (Rd w B s) m) m)(h:Ii (.b7 l) (.b7 m)=aA r){Q:aD->aF->Prop}(q:Q (.bool r) s):aL (Md w) A (yW .Eq (.ref c)<|.ref d) Q E s:=by
 change(match gE l&&gE m with|true=>if l.length==m.length then AZ m l else aA aI|false=>aC)=_ at h
 cases g:gE l&&gE m with
 |false=>replace h:=g▸h;exact nn h
 |true=>
  replace h:=g▸h;obtain⟨j,i⟩:=(oM ..).mp g;have b:((H.map vE).length==(o.map vE).length)=(l.length==m.length):=by rw[bP,bP,D.hs.f7,a.hs.f7]
  cases n:l.length==m.length with
  |true=>rw[n]at h b;exact aS8 (wH D.h3) (wH a.h3) (DM D j) (DM a i) (um f (k:=0)) (λp=>te P (um f) (CR a.hs i) (CR D.hs j) h) (by refine aE b ?_;exact q)
  |false=>rw[n]at h b;exact aS8 (r:=aI) (wH D.h3) (wH a.h3) (DM D j) (DM a i) (um f (k:=0)) (λe=>aZ (b.symm.trans<|beq_iff_eq.mpr e) cC) (by refine aE b ?_;replace q:=(show aI=r from aV h).symm▸q;exact q)
theorem aAZ(P:Ap B)(e:A.units+60<dO)(d:Rw w B s a x)(c:Rw w B s b y)(h:Ii a b=aA r){Q:aD->aF->Prop}(q:Q (.bool r) s):aL (Md w) A (yW .Eq x y) Q E s:=by
 have f:=λh=>(BE P 40 a b x y r (um e) d c h).rc sF w E Q q;induction a using V.casesOn with
 |b7 l=>induction b using V.casesOn with
  |b7 m=>induction d with|mk D _=>induction c with|mk g _=>exact rj P e D g h q
  |_=>exact nn h
 |_=>exact f h
theorem ZF(b:Rw w B s a x):GD a .h9=aA (x== .none):=by
 induction a using V.casesOn with
 |h9=>subst b;rfl
 |e8=>subst b;rfl
 |a5=>cases b;rfl
 |d9=>cases b;rfl
 |a8=>cases b;rfl
 |a7=>cases b;rfl
 |b7=>cases b;rfl
 |a9=>cases b;rfl
theorem SV(c:Rw w B s b y)(h:GD a b=aA r):y= .none/\GD a .h9=aA r:=by
 cases b with
 |h9=>exact⟨c,h⟩
 |_=>exact nn h
theorem Qb{f:Int->Int->Bool}(d:Rw w B s a x)(c:Rw w B s b y)(h:HW f a b=aA r):∃i t j u,x= .int i t/\y= .int j u/\f i j=r:=by
 induction a using V.casesOn with
 |a5 i=>induction d;induction b using V.casesOn with
  |a5 j=>induction c;exact⟨_,_,_,_,rfl,rfl,aV h⟩
  |_=>exact nn h
 |_=>exact nn h
theorem aNE{b:Bool}{Q:aD->aF->Prop}(h:∀{Q':aD->aF->Prop},(∀t,Q' (.bool b)<|tk s t)->aL (Md w) A (yW .In x y) Q' E s)(q:∀t,Q (.bool (!b)) (tk s t)):aL (Md w) A (yW .NotIn x y) Q E s:=by
 show aL (Md w) A (do return KV (!(←ax y x))) Q E s
 refine aK (aDM (Q:=λd a=>aL (Md w) A (bB<|KV<|!d) Q E a) λQ' c=>h λt=>c b _<|bA<|q t)
theorem DY(I:aJ w C B s)(g:A.units+60<dO){o:qW}(v:Rv w B s a x)(L:Rv w B s b y)(h:dZ o a b C=aA r){Q:aD->aF->Prop}(q:∀t,Q (.bool r)<|tk s t):aL (Md w) A (yW o x y) Q E s:=by
 obtain⟨u,z,h⟩:=ob h;obtain⟨D,M,h⟩:=ob h;have f:=lE I v z;have d:=lE I L M;induction o with
 |Eq=>exact aAZ I.o0 g f d h<|q s.toks
 |NotEq=>have⟨c,l,k⟩:=om h;exact(BE I.o0 40 u D x y c (um g) f d l).ne _ w E Q<|k▸q s.toks
 |Lt=>exact zf I.o0 (um g) f d h<|q s.toks
 |LtE=>have⟨i,t,j,u,p,n,m⟩:=Qb f d h;(refine aE p ?_;refine aE n ?_);exact PySem.P.le_int<|m▸q s.toks
 |Gt=>have⟨i,t,j,u,p,n,m⟩:=Qb f d h;(refine aE p ?_;refine aE n ?_);exact PySem.P.gt_int<|m▸q s.toks
 |GtE=>have⟨i,t,j,u,p,n,m⟩:=Qb f d h;(refine aE p ?_;refine aE n ?_);exact PySem.P.ge_int<|m▸q s.toks
 |Is=>have⟨e,h⟩:=SV d h;refine aE e ?_;exact is_none<|aV ((ZF f).symm.trans h)▸q s.toks
 |IsNot=>have⟨c,l,k⟩:=om h;have⟨e,h⟩:=SV d l;refine aE e ?_;exact isNot_none<|aV ((ZF f).symm.trans h)▸k▸q s.toks
 |In=>exact Wn I g v z d h q
 |NotIn=>have⟨c,l,k⟩:=om h;exact aNE (λq=>Wn I g v z d l q)<|k▸q
end
section
variable{w:aW}{f o:aH}{d p:Th}{s C:aF}{A:bN}{E:aD->aF->Prop}{x y z:aD}{a b k v:V}{R:V->aH->Prop}
inductive kT (n:Nat):Int->Nat->Prop
 |pos {j:Nat} (h:j<n):kT n (j:Int) j
 |v1 {i:Int} (h:i<0) (g: -(n:Int)<=i):kT n i (i+n).toNat
theorem TQ{l:List V}{i:Int}{b:List aD}(r:Rl w d s l b)(e:idxV l i=aA v):∃j z,kT b.length i j/\b[j]? =aA z/\Rv w d s v z:=by unfold idxV at e;replace e:=(r.f7).symm▸e;by_cases c:0<=i;replace e:=(bO c)▸e;obtain⟨z,a,g⟩:=r.at e;refine⟨_,z,?_,a,g⟩;have k:=kT.pos (iU.mp a).1;replace k:=(aS9 c)▸k;exact k;replace e:=(bH c)▸e;by_cases a: -(b.length:Int)<=i;replace e:=(bO a)▸e;obtain⟨z,g,h⟩:=r.at e;exact⟨_,z,.v1 (Int.not_le.mp c) a,g,h⟩;replace e:=(bH a)▸e;exact nn e
theorem kT.i5{n j:Nat}{i:Int}(h:kT n i j):seqIndex? i n=aA j:=by
 cases h with
 |pos h=>unfold seqIndex?;rw[bH (EK.mpr<|uT j)];exact bO<|(oM ..).mpr ⟨cU<|uT j,cU<|tK.mpr h⟩
 |v1 h g=>exact MeetsSeq.seqIndex_neg h<|Int.add_left_neg (n:Int)▸Int.add_le_add_right g n
theorem kT.J6{n j:Nat}{i:Int}(h:kT n i j)(a:n<=cF): -(2^63)<=i/\i<2^63:=by
 cases h with
 |pos h=>exact⟨Qs (by decide) (uT j),AM<|aR (dR h) a⟩
 |v1 h g=>exact⟨Qs (aTA<|bb<|AM a) g,be h (by decide)⟩
structure FN(w:aW)(d:Th)(s:aF)(A:bN)(v:V)(x y:aD):Prop where
 t:∃T id,s.TypeIs x T/\aQD (.type T) "__getitem__"=bB (aA<|.builtin id)
 g:∀{E:aD->aF->Prop} {Q:aD->aF->Prop},(∀t z,Rv w d s v z->Q z (tk s t))->aL (Md w) A (KU x y) Q E s
theorem nh(I:aJ w f d s)(L:A.units+60<dO)(K:Rv w d s a x)(F:Rv w d s b y)(h:rQ a b f=aA v):FN w d s A v x y:=by
 obtain⟨u,M,h⟩:=ob h;have r:=lE I K M;induction u using V.casesOn with
 |a8 l=>induction b using V.casesOn with
  |a5 i=>induction F with|mk t=>induction r with|mk c _ k H=>obtain⟨j,z,e,n,m⟩:=TQ H h;exact⟨⟨"tuple",_,c.typeIs,bf.lookup⟩,λq=>aWO c (e.J6 k).1 (e.J6 k).2 e.i5 ((wV ..).trans n)<|q _ z m⟩
  |_=>exact nn h
 |a7 l=>induction b using V.casesOn with
  |a5 i=>induction F with|mk t=>induction r with|mk c _ k H=>
   obtain⟨j,z,e,n,m⟩:=TQ H h;refine⟨⟨"list",_,c.s9.typeIs,aTB.lookup⟩,λ{E Q} q=> ?_⟩;have B:=e.J6 k;cases e with
   |pos h=>exact wpAny_getItem_list c.s9 (uT j) B.2 ((wV ..).trans n)<|q _ z m
   |v1 h g=>exact wpAny_getItem_list_neg c.s9 h g B.1 ((wV ..).trans n)<|q _ z m
  |_=>exact nn h
 |b7 l=>induction r with|mk D _=>
  change(match dY b l with|true=>dF b l|false=>aC)=_ at h
  cases J:dY b l with
  |false=>replace h:=J▸h;exact nn h
  |true=>replace h:=J▸h;exact⟨⟨"dict",_,D.ty,aP8.lookup⟩,λq=>aK0 D F J h (um L) q⟩
 |_=>exact nn h
theorem Rl.E3(c:dD){l:List V}{a:List aD}(r:Rl w d s l a):Rl w d s (xP c l) (xP c a):=by
 induction c with
 |lo n=>exact r.l4 n
 |hi n=>exact r.M4 n
 |D7 n m=>exact(r.M4 m).l4 n
 |x5 n=>show F2 _ (l.take<|l.length-n) (a.take<|a.length-n);refine aE r.f7 ?_;exact r.M4 _
 |v6 n=>show F2 _ (l.drop<|l.length-n) (a.drop<|a.length-n);rw[r.f7];exact r.l4 _
 |w7=>exact r.w7
theorem Ux{a:Type}(c:dD)(l:List a):(xP c l).length<=l.length:=by
 induction c with
 |lo n=>exact aR (bW Hp)<|pI ..
 |hi n=>exact KW ..
 |D7 n m=>exact aR (bW Hp)<|aR (pI ..)<|KW ..
 |x5 n=>exact KW ..
 |v6 n=>exact aR (bW Hp)<|pI ..
 |w7=>exact bW KY
open Builtin.Slice in
theorem aAK(a b:Nat):bh (a:Int) (b:Int) 1=b-a:=by
 unfold bh;rw[bO (by decide),Int.ediv_one,Int.sub_add_cancel]
 by_cases h:(a:Int)<b
 rw[bO h];exact aQE b a;rw[bH h];exact(bj<|Dq λg=>h<|tK.mpr g).symm
theorem Os{n k:Nat}(h:n<=k):(if(n:Int)<0 then max ((n:Int)+k) 0 else tI (n:Int) k)=n:=by exact aE (bH<|EK.mpr<|uT n) (aE (Int.min_eq_left<|Do.mpr h) rfl)
theorem VM{n k:Nat}(a:1<=n)(h:n<=k):(if-(n:Int)<0 then max (-(n:Int)+k) 0 else tI (-(n:Int)) k)=(k-n:Nat):=by rw[bO (Int.neg_neg_of_pos<|tK.mpr a),Qt,←Int.sub_eq_add_neg,←Int.ofNat_sub h,Int.max_eq_left<|uT _]
structure sQ(c:dD)(lo hi st:Option Int):Prop where
 Q0:Ki c=aB->st≠aA 0/\∀vs:List aD,slicePick vs.toArray lo hi st=(xP c vs).toArray
 a8:∀n:Nat,IU c n=aB->st=aC/\∃a b:Nat,bm lo hi 1 (n:Int)=((a:Int),(b:Int))/\(a≠0\/b-a≠n)/\∀vs:List aD,vs.length=n->(vs.drop a).take (b-a)=xP c vs
theorem Jn:(aC:Option Int)≠aA 0:=λh=>nn h
theorem bI{b c:Bool}(h:(b&&c)=aB):b=aB/\c=aB:=(oM ..).mp h
theorem aEV(n:Nat):sQ (.lo n) (aA (n:Int)) aC aC:=
 ⟨λg=>⟨Jn,λc=>slicePick_from' _ _⟩,λk h=>by obtain⟨b,a⟩:=bI h;have b:=bQ b;have a:=bQ a;exact⟨rfl,n,k,aN (·,(k:Int))<|Os a,.inl (jQ b),λc e=>KZ (bW (by exact aE Hp (aE e rfl)))⟩⟩
theorem aLY(n:Nat):sQ (.hi n) aC (aA (n:Int)) aC:=⟨λa=>⟨Jn,λb=>slicePick_upto' _ _⟩,λa h=>aZ h cC⟩
theorem aKO(n m:Nat):sQ (.D7 n m) (aA (n:Int)) (aA (m:Int)) aC:=
 ⟨λh=>aZ h cC,λk h=>by obtain⟨h,a⟩:=bI h;obtain⟨c,b⟩:=bI h;have b:=bQ b;have a:=bQ a;exact⟨rfl,n,m,Qi (Os<|aR b a)<|Os a,.inl (jQ<|bQ c),λe g=>List.drop_take.symm⟩⟩
theorem lz(n:Nat):sQ (.x5 n) aC (aA (-(n:Int))) aC:=
 ⟨λh=>⟨Jn,λc=>slicePick_butLast _ n<|bQ h⟩,λk h=>by obtain⟨a,b⟩:=bI h;have a:=bQ a;have b:=bQ b;exact⟨rfl,0,k-n,Qi rfl<|VM a b,.inr (lU<|Nat.sub_lt (cO a b) a),λc e=>by refine eJ e ?_;rfl⟩⟩
theorem yr(n:Nat):sQ (.v6 n) (aA (-(n:Int))) aC aC:=
 ⟨λh=>⟨Jn,λc=>slicePick_last _ n<|bQ h⟩,λk h=>by obtain⟨b,a⟩:=bI h;have b:=bQ b;have a:=bQ a;exact⟨rfl,k-n,k,aN (·,(k:Int))<|VM b<|dR a,.inl (jQ<|BP a),λc e=>by refine eJ e ?_;exact KZ<|bW<|Hp ..⟩⟩
theorem ta:sQ .w7 aC aC (aA (-1)):=⟨λa=>⟨by decide,λb=>PySem.W.krv_pick _⟩,λa h=>aZ h cC⟩
end
section
variable{w:aW}{l f:aH}{B g:Th}{s r:aF}{A:bN}{E:aD->aF->Prop}{x y z:aD}{a b k v:V}{R:V->aH->Prop}
theorem VD{v:aD}{k:Option Int}{Q:Option Int->aF->Prop}(a:Dr v k)(q:Q k s):aL (Md w) A (aWP v) Q E s:=by
 induction a with
 |none=>exact slicePart_none q
 |int i t=>exact slicePart_int q
open Builtin.Slice in
theorem aL3{m:aM}{k j:aD}{c stop:Option Int}{a b n:Nat}{Q:Int×Int×Nat->aF->Prop}(t:s.heap.IsSliceOf m k j .none)(q:Dr k c)(p:Dr j stop)
  (i:bm c stop 1 (n:Int)=((a:Int),(b:Int))) (h:Q ((a:Int),1,b-a) s):aL (Md w) A (sliceApplied (.ref m)<|bB (n:Int)) Q E s:=by
 obtain⟨y,d,v,e⟩:=t;unfold sliceApplied sliceFields;refine aK<|aK<|yX d e (x:=k) rfl<|aK<|yX d e (x:=j) rfl<|aK<|yX d e (x:= .none) rfl<|bA ?_;refine aK<|slicePart_none ?_;show aL _ _ (if((1:Int)==0)=aB then _ else _) _ _ s;refine aE (bH (by decide)) ?_
 refine aK (VD q<|aK<|VD p<|aK<|bA ?_);show aL _ _ (match bm c stop 1 (n:Int)with|(o,u)=>bB (o,(1:Int),bh o u 1)) _ _ s
 refine aE i ?_;show aL _ _ (bB ((a:Int),(1:Int),bh (a:Int) (b:Int) 1)) _ _ s;rw[aAK];exact bA h
theorem jo(a n:Nat)(b:List aD):((eW n).filterMap λ(k:Nat)=>b.toArray[((a:Int)+(k:Int)*1).toNat]?)=(b.drop a).take n:=by
 have e:(λ(k:Nat)=>b.toArray[((a:Int)+(k:Int)*1).toNat]?)=λk=>b.toArray[a+k]? :=funext λk=>by rw[Int.mul_one];rfl
 refine aE e ?_;exact(Lg ..).symm.trans<|pick_run b.toArray a n
theorem aH7{t u:aM}{d:List aD}{q p:aD}{c stop:Option Int}{a b:Nat}{Q:aD->aF->Prop}(i:s.heap.IsTuple t d.toArray)(v:s.heap.IsSliceOf u q p .none)(y:Dr q c)(x:Dr p stop)
  (e:bm c stop 1 (d.length:Int)=((a:Int),(b:Int))) (F:a≠0\/b-a≠d.length) (C:((d.drop a).take<|b-a).length<=rD)
  (h:Q (.ref s.heap.objs.size) {s with heap:=s.heap.push {cls:= .type "tuple",data:= .seq ((d.drop a).take<|b-a).toArray}}):
  aL (Md w) A (KU (.ref t)<|.ref u) Q E s:=by
 obtain⟨z,j,o,D⟩:=id v;unfold KU;refine fV (aK (aP7 i.typeIs (by decide) ?_))
 refine aK (wW (name:=cD "__getitem__") i.typeIs bf<|nN bf i.typeIs entry_tuple_getitem ?_<|args_tuple_getitem _ _);show aL _ _ (aPZ (.ref t)>>=_) _ _ s;refine aK<|aP1 i<|aK<|AD (T:= "slice") ⟨z,j,o⟩ ?_;refine aE (bO (by decide)) ?_
 refine aK (aL3 v y x e ?_);have k:¬(((a:Int)==0&&(1:Int)==1&&(b-a)==d.length)=aB):=λh=>
  have h:=bI h;F.elim (λn=>n<|aQF.mp<|jX (bI h.1).1) λn=>n<|jX h.2
 show aL _ _ (if((a:Int)==0&&(1:Int)==1&&(b-a)==d.length)=aB then _ else _) _ _ s;rw[bH k,jo];exact aK (m:=aWQ _)<|yY (bA ⟨_,rfl,bA h⟩) C
structure uM(e:Option aT)(k:Option Int):Prop where
 go:∀{w:aW} {A:bN} {E:aD->aF->Prop} {s:aF} {env:dH} {Q:aD->aF->Prop},(∀v t,Dr v k->Q v (tk s t))->aL (Md w) A (evalPart e env) Q E s
theorem noL:uM aC aC:=⟨λ{w A E s a Q} q=>by rw[evalPart_none];exact bA<|q _ s.toks .none⟩
theorem iu(i:Int)(a:Nat)(p:cY):uM (aA<|.Constant (.int i) a p) (aA i):=⟨λ{w A E s b Q} q=>by rw[evalPart_some];exact aQG<|q _ _<|.int _ _⟩
theorem aCH(i:Int)(a:Nat)(p b:cY):uM (aA<|.UnaryOp .USub (.Constant (.int i) a p) b) (aA (-i)):=⟨λ{w A E s c Q} q=>by rw[evalPart_some];exact aQH<|aQG<|aTC<|q _ _<|.int _ _⟩
theorem aO8{c:EE}{i:Int}(h:UI c=aA i):c= .int i:=by
 induction c with
 |int j=>exact aN _<|aV h
 |_=>exact nn h
theorem ZG{e:aT}{i:Int}(h:GI e=aA i):∃a p,e= .Constant (.int i) a p:=by obtain⟨c,_,h⟩:=ob h;exact⟨_,_,c.2.trans (aN (Expr.Constant · _ _)<|aO8 h)⟩
theorem aN2{o:UnaryOp}(h:OW o=aB):o= .USub:=by cases o<;>first|rfl|exact aZ h cC
theorem aNF{e:aT}{j:Int}(h:OY e=aA j):uM (aA e) (aA j):=by
 obtain⟨u,_,h⟩:=ob h;cases b:OW u.1.1 with
 |false=>replace h:=b▸h;exact nn h
 |true=>
  replace h:=b▸h;obtain⟨i,k,d⟩:=om h;obtain⟨a,p,c⟩:=ZG k
  (refine aE u.2 ?_;refine aE c ?_;refine aE (aN2 b) ?_;refine eJ d ?_)
  exact aCH ..
theorem PW{e:Option aT}{k:Option Int}(h:Iy e=aA k):uM e k:=by
 induction e using jP with
 |none=>exact aV h▸noL
 |some e=>
  change(match GI e with|some i=>aA (aA i)|none=>(OY e).map aA)=aA k at h
  cases d:GI e with
  |some c=>
   replace h:=d▸h;obtain⟨a,p,b⟩:=ZG d
   (refine aE b ?_;refine eJ (aV h) ?_)
   exact iu ..
  |none=>replace h:=d▸h;obtain⟨j,m,b⟩:=om h;exact b▸aNF m
theorem aJP{b a d:Option Int}{c:dD}(h:Xg b a d=aA c):sQ c b a d:=by
 induction d using jP with
 |none=>induction b using jP with
  |none=>induction a using jP with
   |none=>exact nn h
   |some i=>induction i with
    |ofNat n=>exact aV h▸aLY n
    |negSucc n=>exact aV h▸lz (n+1)
  |some i=>induction a using jP with
   |none=>induction i with
    |ofNat n=>exact aV h▸aEV n
    |negSucc n=>exact aV h▸yr (n+1)
   |some j=>induction i with
    |ofNat n=>induction j with
     |ofNat m=>exact aV h▸aKO n m
     |negSucc m=>exact nn h
    |negSucc n=>exact nn h
 |some k=>induction b using jP with
  |some i=>exact nn h
  |none=>induction a using jP with
   |some i=>exact nn h
   |none=>induction k with
    |ofNat n=>exact nn h
    |negSucc n=>induction n using fO with
     |zero=>exact aV h▸ta
     |succ n=>exact nn h
inductive Gg (c:dD):aT->Prop
 |mk {lo hi st:Option Int} (C:sQ c lo hi st) {a b d:Option aT} {p:cY} (h1:uM a lo) (h2:uM b hi) (h3:uM d st):Gg c (.Slice a b d p)
theorem aJF{i:aT}{c:dD}(h:GX i=aA c):Gg c i:=by obtain⟨p,_,h⟩:=ob h;obtain⟨j,d,h⟩:=ob h;obtain⟨k,b,h⟩:=ob h;obtain⟨e,a,h⟩:=ob h;exact p.2▸ .mk (aJP h) (PW d) (PW b) (PW a)
theorem Xh(c:aT)(o i:aD):∃e,subscripted c aI o i=operate e (KU o i):=by
 cases c with
 |Slice a b d p=>cases d<;>exact⟨_,rfl⟩
 |_=>exact⟨_,rfl⟩
end
section
variable{w:aW}{p B:aH}{d D:Th}{s H:aF}{A:bN}{E:aD->aF->Prop}{x y z:aD}{a b k v:V}{R:V->aH->Prop}{r:aM}{f:List aD}{l:List V}{F:List fB}
noncomputable abbrev ON(f:List aD):dE:={cls:= .type "tuple",data:= .seq f.toArray}
noncomputable abbrev HK(f:List aD):dE:={cls:= .type "list",data:= .seq f.toArray}
theorem oU(h:dW)(o:dE)(a:o.isFreed=aI:=by rfl):(h.push o).get? h.objs.size=aA o:=kZ _ a
noncomputable abbrev DN(s:aF)(o:dE)(t:Nat):aF:={s with heap:=s.heap.push o,toks:=t}
theorem Kx(I:aJ w p d s){t:Nat}(a:f.length<=cF)(r:Rl w d s l f)(q:R (.a8 l) p):Nx w d s R (.ref s.heap.objs.size) (DN s (ON f) t):=
 have g:=aU.u4 s (ON f) t
 .l8 I g (qT▸ .mk ⟨_,oU ..,rfl,0,rfl⟩ (I.o8<|bT _).n a (g.kp.rl r)) q
theorem Ox(I:aJ w p d s){t:Nat}(a:f.length<=cF)(r:Rl w d s l f)(q:R (.a7 l) p):Nx w d s R (.ref s.heap.objs.size) (DN s (HK f) t):=
 have g:=aU.u4 s (HK f) t
 .l8 I g (vZ▸ .mk (.mk (oU ..) rfl rfl rfl) (I.o8<|bT _).n a (g.kp.rl r)) q
theorem aOA(I:aJ w p d s){t:Nat}(a:f.length<=cF)(r:Rl w d s l f)(q:R (.a9 p.length) (p++[.a7 l])):Nx w d s R (.ref s.heap.objs.size) (DN s (HK f) t):=
 .N7 (o:= .a7 l) I (.u4 s (HK f) t) (bT _) (λk=>qJ.mk rfl (oU ..) a<|k.rl r) q
theorem aCD(I:aJ w p d s){j:aF}(g:aU s j){P:aM}{U T S:aD}(J:j.heap.IsSliceOf P U T S){lo hi X:Option Int}(Z:Dr U lo)(Y:Dr T hi)(M:Dr S X){c:dD}(C:sQ c lo hi X)(ra:Rv w d s a x)(h:(eK a p).bind (Fg c)=aA v)(q:R v p){e i:aT}:
  aL (Md w) A (subscriptTail e i x<|.ref P) (Nx w d s R) E j:=by
 obtain⟨u,h1,b⟩:=ob h;have r:=lE I ra h1;obtain⟨ops,n⟩:=Xh i x<|.ref P;have I1:=I.l8 g;cases u with
 |a8 l=>
  change gI (IU c l.length) _=_ at b;cases y:IU c l.length with
  |false=>replace b:=y▸b;exact nn b
  |true=>
   replace b:=y▸b;obtain⟨e,a',b',K,Q,m⟩:=C.a8 _ y;replace M:=e▸M;cases M;induction r with| @mk c' f z hn N t=>
   obtain⟨o,ho,z⟩:=z;have L:j.heap.IsTuple c' f.toArray:=⟨o,g.i8 _ _ ho,z⟩;have k:=aR (Ux c f) N;replace k:=(m f t.f7).symm▸k;refine tail_any L.typeIs bf.lookup (aH7 L J Z Y (t.f7.symm▸K) (t.f7.symm▸Q) (jN k) ?_) n;exact(Kx I1 k (l:=xP c l) (by refine aE (m f t.f7) ?_;exact g.kp.rl<|t.E3 c) (by refine aE (show V.a8 (xP c l)=v from aV b) ?_;exact q)).tr (g.gd _ _)
 |a7 l=>
  change gI (Ki c) _=_ at b;cases y:Ki c with
  |false=>replace b:=y▸b;exact nn b
  |true=>
   replace b:=y▸b;obtain⟨h0,m⟩:=C.Q0 y;induction r with| @mk c' f z hn N t=>
   have L:=(z.kp λo=>g.i8 _ o).s9;refine tail_any L.typeIs aTB.lookup (wpAny_getItem_list_slice L J Z Y M h0 ?_<|jN N) n;rw[m];exact(Ox I1 (aR (Ux c f) N) (g.kp.rl<|t.E3 c) (by rw[show V.a7 (xP c l)=v from aV b];exact q)).tr (g.gd _ _)
 |_=>exact nn b
theorem mi(I:aJ w p d s){i:aT}{c:dD}(n:GX i=aA c)(m:Rv w d s a x)(h:(eK a p).bind (Fg c)=aA v)(q:R v p){e:aT}{l:dH}:
  aL (Md w) A (dJ i l) (λy b=>aL (Md w) A (subscriptTail e i x y) (Nx w d s R) E b) E s:=by
 induction aJF n with|mk C k j g=>
 exact wpAny_Slice (k.go λu t k=>j.go λr t j=>g.go λo t g=>aCD I (.u4 s _ t) (aWR ..) k j g C m h q)
theorem zr{i:Int}(h:nT i=aB):Builtin.Int.intBits i<=64:=
 have h:=bI h;intBits_le_64 (bb (be (by decide) (bQ h.1))) (be (bQ h.2) (by decide))
theorem Fu{b:Bool}{u v:V}(h:gI b u=aA v):b=aB/\u=v:=by
 induction b using eT with
 |true=>exact⟨rfl,aV h⟩
 |false=>exact nn h
theorem Zs(f a:List aD):f.toArray++a.toArray=(f++a).toArray:=aTD ..
theorem Nx.a5(I:aJ w p d s){i:Int}{t:Tok}{u:Nat}(q:R (.a5 i) p):Nx w d s R (.int i t) (tk s u):= .l8 (v:= .a5 i) I (.n6 s u) (RI.mk t) q
theorem aO3(I:aJ w p d s){l m:List V}(P:RL No s (Rl w d s l) x)(N:RL No s (Rl w d s m) y)(h:Km .Add (.a7 l) (.a7 m)=aA v)(q:R v p):aL (Md w) A (bn .Add x y) (Nx w d s R) E s:=by
 have h:=Fu h;induction P with| @mk c f T _ hl u=>induction N with| @mk c' L i _ U b=>
 have a:(f++L).length<=cF:=by refine aE ((u.j7 b).f7) ?_;exact bQ h.1
 induction T with| @mk o n z Z Y X=>induction i with| @mk Q S e k j C=>
 obtain⟨cls,dd,J,M⟩:=o;obtain⟨K,r,t,g⟩:=Q;subst Z;subst Y;subst k;subst j;refine concat_meets ⟨_,z,rfl⟩ ⟨_,e,rfl⟩ noFill_list_add seq_list_add PySem.F.slot_list_add PySem.F.entry_list_add (PySem.F.args_list_add_2 _ _) (list_addW c c' _ _ n S dd r M g<|aR (bW cM.symm)<|jN a) ⟨z,e,?_⟩;rw[Zs];exact Ox I a (u.j7 b)<|h.2▸q
theorem aCT(I:aJ w p d s){l m:List V}(Y:RT d.N s (Rl w d s l) x)(X:RT d.N s (Rl w d s m) y)(h:Km .Add (.a8 l) (.a8 m)=aA v)(q:R v p):aL (Md w) A (bn .Add x y) (Nx w d s R) E s:=by
 have h:=Fu h;have q:R (.a8 (l++m)) p:=h.2▸q;have L:=Y;have K:=X;induction Y with| @mk c f ht _ hl u=>induction X with| @mk z ws N _ hl' a=>
 have i:(f++ws).length<=cF:=by rw[(u.j7 a).f7];exact bQ h.1
 obtain⟨o,C,hc,n,hd⟩:=ht;obtain⟨o',b,Q,M,P⟩:=N;obtain⟨cls,T,Z,J⟩:=o;obtain⟨cls',t,U,j⟩:=o';subst hc;subst hd;subst Q;subst P;have k:∀{S:PySem.Spec},Meets (Builtin.«tuple.__add__» ⟨[.ref c,.ref z],[]⟩) S->S A (wants (Nx w d s R) E) s->aL (Md w) A (bn .Add (.ref c)<|.ref z) (Nx w d s R) E s:=λg h=>
  concat_meets ⟨_,C,rfl⟩ ⟨_,b,rfl⟩ noFill_tuple_add seq_tuple_add PySem.F.slot_tuple_add PySem.F.entry_tuple_add (PySem.F.args_tuple_add_2 _ _) g h
 induction l using bM with
 |nil=>subst u;exact k (tuple_addW0 c z _ _ n M T t J j rfl) ⟨C,b,.A5 I (qT▸K) q⟩
 |cons e l=>induction m using bM with
  |nil=>subst a;rw[fS]at q;induction u with|mk h1 h2=>exact k (tuple_addW1 c z _ _ n M T t J j (by exact cC) rfl) ⟨C,b,.A5 I (qT▸L) q⟩
  |cons e' m=>
   have r:=u.j7 a;induction u with|mk h1 h2=>induction a with|mk g1 g2=>
   refine k (tuple_addW2 c z _ _ n M T t J j (by exact cC) (by exact cC) (aR (bW cM.symm)<|jN i)) ⟨C,b,?_⟩
   rw[Zs];exact Kx I i r q
theorem aDZ(I:aJ w p d s){o:KJ}(e:Rv w d s a x)(c:Rv w d s b y)(h:nL o a b p=aA v)(q:R v p):aL (Md w) A (bn o x y) (Nx w d s R) E s:=by
 obtain⟨u,z,h⟩:=ob h;obtain⟨g,r,h⟩:=ob h;have e:=lE I e z;have c:=lE I c r;induction o with
 |Add=>induction u using V.casesOn with
  |a5 i=>induction g using V.casesOn with
   |a5 j=>induction e;induction c;exact wpAny_add_int<|.a5 I (aV h▸q)
   |_=>exact nn h
  |d9 i=>induction g using V.casesOn with
   |d9 j=>induction e;induction c;have h:=Fu h;have n:=bQ h.1;exact PySem.SB.add (λt k=> .l8 (v:= .d9 (i++j)) I (.n6 s _) (RS.mk t n) (h.2▸q))<|aR (bW (size_cat i j).symm)<|jN n
   |_=>exact nn h
  |a8 l=>induction g using V.casesOn with
   |a8 m=>exact aCT I e c h q
   |_=>exact nn h
  |a7 l=>induction g using V.casesOn with
   |a7 m=>exact aO3 I e c h q
   |_=>exact nn h
  |_=>exact nn h
 |Sub=>induction u using V.casesOn with
  |a5 i=>induction g using V.casesOn with
   |a5 j=>induction e;induction c;exact PySem.P.sub_int<|.a5 I (aV h▸q)
   |_=>exact nn h
  |_=>exact nn h
 |Mult=>induction u using V.casesOn with
  |a5 i=>induction g using V.casesOn with
   |a5 j=>induction e;induction c;have h:=Fu h;exact PySem.P.mul_int (.a5 I (h.2▸q)) (hm:= .of_left (zr (bI h.1).1))
   |_=>exact nn h
  |_=>exact nn h
 |Mod=>induction u using V.casesOn with
  |a5 i=>induction g using V.casesOn with
   |a5 j=>induction e;induction c;have h:=Fu h;exact mod_int (bne_iff_ne.mp h.1)<|.a5 I (h.2▸q)
   |_=>exact nn h
  |_=>exact nn h
 |_=>exact nn h
end
section
variable{w:aW}{F J:aH}{B L:Th}{s H:aF}{A:bN}{E:aD->aF->Prop}{x y z:aD}{a b k v u:V}{R:V->aH->Prop}{C:List aD}{l m:List V}{K:List fB}{p:Nat}
inductive yI (w:aW) (B:Th) (s:aF) (p:Nat) (l:List V):aD->Prop
 |mk {q:aM×aM} {C:List aD} {n:Nat} (hq:B.ρ[p]? =aA q) (e:q.2=q.1) (g:s.heap.get? q.1=aA (Hk C.toArray n)) (hl:C.length<=cF) (hs:Rl w B s l C):yI w B s p l (.ref q.1)
theorem DH(I:aJ w F B s)(c:F[p]? =aA (.a7 l))(r:Rv w B s (.a9 p) x):yI w B s p l x:=by
 induction r with|mk a=>
 cases I.w6 p _ _ c a with|mk e g d b=>exact .mk a e g d b
theorem Oo{h:dW}{a:aM}{b:Array aD}{n:Nat}(f:Array aD->Array aD)(d:h.get? a=aA (Hk b n)):∃c,(h.update a<|yZ f).get? a=aA (Hk (f b) c):=⟨_,wX _ d rfl⟩
theorem IB(I:aJ w F B s){q:aM×aM}{a:dW}{t:Nat}(c:B.ρ[p]? =aA q)(f:q.2=q.1)(b:lT q.1 s.heap a){n:Nat}(e:a.get? q.1=aA (Hk C.toArray n))(d:C.length<=cF)(r:Rl w B s l C):
  aJ w (F.set p<|.a7 l) B {s with heap:=a,toks:=t}/\Gd [] B s B {s with heap:=a,toks:=t}:=
 I.J9 (B:={s with heap:=a,toks:=t}) c (.inl rfl) b rfl rfl λk=>qJ.mk f e d<|k.rl r
theorem yj(I:aJ w F B s)(i:F[p]? =aA (.a7 l))(e:Rv w B s (.a9 p) x)(d:Rv w B s v y)(j:l.length<cF)(q:R .h9 (F.set p<|.a7 (l++[v]))):aL (Md w) A (fK (.builtin "list.append") [x,y]) (Nx w B s R) E s:=by
 induction DH I i e with| @mk o C n g m k b c=>
 refine aTE ⟨n,k⟩ (λr ⟨f,h⟩ a=> ?_) (jN b);have U:=IB I (t:=s.toks) g m a (C:=C++[y]) (n:=f) (by rw[h,aQA]) (by(refine aE cM ?_;refine aE c.f7 ?_);exact j) (c.j7<|.p9 d)
 exact .mk (v:= .h9) U.1 U.2 rfl q
inductive yJ (w:aW) (B:Th) (s:aF) (l:List V):aD->Prop
 |mk {c:aM} {C:List aD} (h:s.heap.IsList c C.toArray\/s.heap.IsTuple c C.toArray) (hl:C.length<=cF) (hs:Rl w B s l C):yJ w B s l (.ref c)
theorem Iz(r:Rw w B s u x)(h:nJ u=aA l):yJ w B s l x:=by
 induction u using V.casesOn with
 |a8 m=>induction r with|mk a _ c b=>exact .mk (.inr a) c (aV h▸b)
 |a7 m=>induction r with|mk a _ c b=>exact .mk (.inl a.s9) c (aV h▸b)
 |_=>exact nn h
theorem Mm{c:aM}(h:s.heap.IsList c C.toArray\/s.heap.IsTuple c C.toArray){Q:Array aD->aF->Prop}(q:Q C.toArray s):aL (Md w) A (aTF<|.ref c) Q E s:=by unfold aTF;exact h.elim (λi=>i.elim λo l=>l.elim λa k=>k.elim λm j=>j.elim λn b=>aK<|zC a b<|bA q) λd=>d.elim λo g=>g.elim λa f=>f.elim λm e=>e.elim λn b=>aK<|zC a b<|bA q
theorem Vc{c:aM}(h:s.heap.IsList c C.toArray\/s.heap.IsTuple c C.toArray):∃T,s.TypeIs (.ref c) T/\(T= "list"\/T= "tuple"):=h.elim (λh=>⟨_,h.typeIs,.inl rfl⟩) λh=>⟨_,h.typeIs,.inr rfl⟩
theorem aBC(I:aJ w F B s)(P:F[p]? =aA (.a7 l))(z:Rv w B s (.a9 p) x)(r:Rv w B s v y)(Q:(eK v F).bind nJ=aA m)(X:(l++m).length<=cF)(q:R .h9 (F.set p<|.a7 (l++m))):aL (Md w) A (fK (.builtin "list.extend") [x,y]) (Nx w B s R) E s:=by
 obtain⟨u,h1,h2⟩:=ob Q;induction Iz (lE I r h1) h2 with| @mk c b o S d=>
 induction DH I P z with| @mk D C n N Y f g k=>
 have a:(C++b).length<=cF:=(k.j7 d).f7▸X;refine nN aTG ⟨_,f,rfl⟩ PySem.F.entry_list_extend ?_<|PySem.F.args_list_extend_2 _ _;show aL _ _ (EL (.ref D.1) (.ref c) .none) _ _ s;unfold EL;obtain⟨T,Z,i⟩:=Vc o;refine aK<|AD Z ?_;rw[bO (i.elim (λe=>(BO ..).mpr (.inl ((BO ..).mpr (.inr (by refine aE e ?_;decide))))) λe=>(BO ..).mpr (.inr (by refine aE e ?_;decide)))]
 refine aK (Mm o<|aK<|Mm (.inl ⟨_,f,rfl,n,rfl⟩) ?_);have j:C.length+b.length<=rD:=aR (bW cM.symm)<|jN a;refine aE (bH (show ¬(!C.toArray.isEmpty&&aWS (C.toArray.size+b.toArray.size))=aB fromλh=>eI.mpr j<|bQ (bI h).2)) ?_;obtain⟨M,e⟩:=Oo (λxs=>xs++b.toArray) f;refine aK (aQI f rfl (bA ⟨.none,rfl,?_⟩) (jN g) (by refine aE Qu ?_;exact uS j))
 have U:=IB I (t:=s.toks) N Y (qA ..) (C:=C++b) (n:=M) (by rw[e,aTD]) a (k.j7 d)
 exact .mk (v:= .h9) U.1 U.2 rfl q
theorem UC(C:List aD)(k:Nat):C.toArray.eraseIdxIfInBounds k=(C.eraseIdx k).toArray:=List.eraseIdxIfInBounds_toArray ..
theorem aO6(I:aJ w F B s)(y:F[p]? =aA (.a7 l)){i:Nat}{t:Tok}(m:Rv w B s (.a9 p) x)(r:l[i]? =aA v)(q:R v (F.set p<|.a7 (l.eraseIdx i))):aL (Md w) A (fK (.builtin "list.pop") [x,.int (i:Int) t]) (Nx w B s R) E s:=by
 induction DH I y m with| @mk c C n u D b a f=>
 obtain⟨z,g,N⟩:=f.at r;have k:=kT.pos (iU.mp g).1;obtain⟨o,e⟩:=Oo (λxs=>xs.eraseIdxIfInBounds i) b;have d:aTH (i:Int)=aB:=by unfold aTH;rw[oM,decide_eq_true_eq,decide_eq_true_eq];exact k.J6 a
 have h:seqIndex? (i:Int) C.toArray.size=aA i:=k.i5;have Q:C.toArray[i]? =aA z:=(wV ..).trans g;have P:C.toArray.size<=rD:=jN a;generalize S:(i:Int)=j at d h⊢;have M:=aWT c.1 C.toArray n j t i z d h Q P;refine aQJ aTI ⟨_,b,rfl⟩ PySem.F.entry_list_pop (PySem.F.args_list_pop_2 _ _) M ⟨b,?_⟩;have U:=IB I (t:=s.toks) u D (qA s.heap c.1 _) (C:=C.eraseIdx i) (n:=o) (by rw[e,UC]) (aR (aTJ ..) a) (f.P1 i)
 exact .mk U.1 U.2 (U.2.k0.rv N) q
noncomputable def VA(c:aX):aD->Bool
 | .str y _=>y.cps.toList==c.cps.toList
 |_=>aI
theorem TP(a b:aX):(a.cps.toList==b.cps.toList)=aQ (a=b):=by rw[Dp,beq_iff_eq,decide_eq_true_eq];exact⟨λe=>by cases a;cases b;exact aN bp<|Array.toList_inj.mp e,λe=>e▸rfl⟩
theorem jg(I:aJ w F B s)(ho:F[p]? =aA (.a7 l))(S:Rv w B s (.a9 p) x)(Q:Rv w B s v y)(b:GR v l=aA m)(q:R .h9 (F.set p<|.a7 m)):aL (Md w) A (fK (.builtin "list.remove") [x,y]) (Nx w B s R) E s:=by
 change(match iC v&&l.all iC with|true=>(l.findIdx? λy=>cN y v).map λj=>l.eraseIdx j|false=>aC)=_ at b
 cases g:iC v&&l.all iC with
 |false=>rw[g]at b;exact nn b
 |true=>
  rw[g]at b;obtain⟨j,hj,e⟩:=om b;obtain⟨Y,X⟩:=bI g;induction v using V.casesOn with
  |d9 c=>
   induction Q with|mk t _=>
   induction DH I ho S with| @mk D C n hq he z f M=>
   have a:F2 (λv x=>(∃y t,x= .str y t)/\VA c x=cN v (.d9 c)) l C:=M.j4 λv hv x r=>by
    have h:=cX.mp X v hv;induction v using V.casesOn with
    |d9 d=>induction r with|mk t=>exact⟨⟨_,_,rfl⟩,(TP d c).trans (Ja d c).symm⟩
    |_=>exact aZ h cC
   obtain⟨k,u,o⟩:=aP4.mp<|(a.J0 λv x r=>r.2.symm).symm.trans hj;obtain⟨T,e2⟩:=Oo (λxs=>xs.eraseIdxIfInBounds j) z;refine aQJ aTK ⟨_,z,rfl⟩ PySem.F.entry_list_remove (PySem.F.args_list_remove_2 _ _) (aWU D.1 C.toArray n (.str c t) (VA c) ?_ j k u (λi hi h=>Ds.mpr<|o i h)<|jN f) ⟨z,?_⟩;intro y Z;obtain⟨_,_,⟨N,P,e⟩,_⟩:=a.m9<|yV.mpr Z;refine aE e ?_;exact aWV N c P t;have U:=IB I (t:=s.toks) hq he (qA s.heap D.1 _) (C:=C.eraseIdx j) (n:=T) (by rw[e2,UC]) (aR (aTJ ..) f) (M.P1 j)
   exact .mk (v:= .h9) U.1 U.2 rfl (e▸q)
  |_=>exact aZ Y cC
theorem Iv(I:aJ w F B s){l:List (V×V)}(d:F[p]? =aA (.b7 l))(r:Rv w B s (.a9 p) x):∃q K n,B.ρ[p]? =aA q/\x= .ref q.1/\q.2=q.1/\s.heap.get? q.1=aA (jB K n)/\bL s q.1 K (F2 (Rd w B s) l) l/\(gE l=aB->n=K.length):=by
 induction r with|mk a=>
 cases I.w6 p _ _ d a with|mk e g h b c f=>exact⟨_,_,_,a,rfl,e,g,⟨⟨_,g⟩,(I.u3 _<|.inl (Au a).1).2,h,b,c⟩,f⟩
theorem aC3{l:List (V×V)}(h:gE (gV k v l)=aB):gE l=aB:=by
 rw[Gp]at h;cases a:fd k l with
 |none=>rw[a]at h;exact(bI<|bq.symm.trans h).1
 |some i=>
  rw[a]at h;have e:∀m:List (V×V),gE m=(m.map (·.1)).all iC:=λm=>by refine aE qZ ?_;rfl
  rw[e]at h⊢;exact NZ v l i▸h
theorem aCL(I:aJ w F B s)(m:A.units+60<dO)(g:Rv w B s a x)(f:Rv w B s b y)(e:Rv w B s v z)(h:El a b v F=aA J){Q:Unit->aF->Prop}(q:∀H,aJ w J B H->Gd [] B s B H->Q () H):aL (Md w) A (setItem x y z) Q E s:=by
 cases a with
 |a9 p=>
  change(match F[p]? with|some (.b7 l)=>(match dY b l&&aQ (l.length<cF)with|true=>aA (F.set p<|.b7 (gV b v l))|false=>aC)|_=>aC)=_ at h
  cases c:F[p]? with
  |none=>replace h:=c▸h;exact nn h
  |some o=>
   replace h:=c▸h;induction o with
   |b7 l=>
    cases d:dY b l&&aQ (l.length<cF)with
    |false=>dsimp only at h;replace h:=d▸h;exact nn h
    |true=>
     dsimp only at h;replace h:=d▸h;obtain⟨j,i⟩:=bI d;obtain⟨X,K,n,r,T,N,M,D,u⟩:=Iv I c g;refine aE T ?_;refine ym M D f e j (um m) λt P R Y S=> ?_;have U:=I.J9 (B:={s with heap:=P,toks:=t}) (A:= .b7 (gV b v l)) r (.inl rfl) S.u9 rfl rfl λk=>sU.mk N S.g (S.r.f7▸aR KA (bQ i)) S.nd (k.rd S.r) λh=>S.ep<|u<|aC3 h
     cases aV h;exact q _ U.1 U.2
   |_=>exact nn h
 |_=>exact nn h
end
end
end Internal.S
open PySem PySem.W PySem.Calls PyProof.Rows PySem.Builtin.ObjectAttr
namespace Internal.S
noncomputable section
local macro_rules | `(tactic| rfl') => `(tactic| kernel_rfl)
open Internal
section
variable{w:aW}{D F:aH}{B H:Th}{s L:aF}{A:bN}{E:aD->aF->Prop}{x y z:aD}{a b k v u:V}{R:V->aH->Prop}{J:List aD}{l m:List V}{t:List fB}{p c:Nat}{d:aX}{j:List (Nat×V)}
theorem Ak(h:fX d=aB):d=kP (key d):=jX h
theorem Nd{k:Nat}(b:fX d=aB)(c:key (kP k)=k)(a:Tok):(Value.str (kP k) a).isStr d=bZ k (key d):=by show(kP k==d)=_;rw[Dp,beq_iff_eq,Nat.beq_eq];exact⟨λe=>by exact eJ e (aE c rfl),λe=>by refine aE e ?_;exact(Ak b).symm⟩
theorem xJ{b:Type}{k:Nat}{a:b}{l:List (Nat×b)}(h:iG k l=aA a):(k,a)∈l:=by
 induction l with
 |nil=>exact nn h
 |cons p r c=>
  change(if bZ p.1 k then aA p.2 else iG k r)=_ at h;cases e:bZ p.1 k with
  |true=>replace h:=e▸h;(refine eJ (iQ e) ?_;refine eJ (aV h) ?_);exact .head _
  |false=>replace h:=e▸h;exact .tail _ (c h)
theorem Dd{a:Option (Option aD)}{b:aD}(h:Ab a b=aB):a=aA (aA b):=jX h
theorem IR{a:Option (Option aD)}(h:Gq a=aB):a=aA aC:=jX h
structure mH(K:sG)(c:Nat):Prop where
 ga:yR K (.ref (fY c)) "__getattribute__"=aA (aA<|.builtin "object.__getattribute__")
 gt:yR K (.ref (fY c)) "__getattr__"=aA aC
 sa:yR K (.ref (fY c)) "__setattr__"=aA (aA<|.builtin "object.__setattr__")
 u0:makesIn K (fY c)=aB
 P7:plainOver K (fY c)=aB
 O5:(Qc K<|fY c).any (·.hasDict)=aB
 i6:∀d,fX d=aB->rP c (key d)=aB->key (kP<|key d)=key d/\yR K (.ref (fY c)) d=aA aC
 f8:∀d fid,fX d=aB->tC c (key d)=aA fid->(yR K (.ref (fY c)) d=aA (aA<|.ref (fA fid))/\typeIn K (.ref (fA fid))=aA (.type "function"))/\rP c (key d)=aI
theorem JU(s:(iG c Ai).isSome=aB):mH (KK w) c:=by
 obtain⟨a,v⟩:=wR.mp s;obtain⟨E,h⟩:=bI ((xT w).s5 _<|xJ v).1;obtain⟨C,h⟩:=bI h;obtain⟨A,h⟩:=bI h;obtain⟨z,h⟩:=bI h;obtain⟨y,h⟩:=bI h;obtain⟨x,h⟩:=bI h;obtain⟨k,i⟩:=bI h;refine⟨Dd E,IR C,Dd A,z,y,x,λd g e=> ?_,λd I g e=> ?_⟩;unfold rP at e;cases q:iG c MJ with
 |none=>replace e:=q▸e;exact aZ e cC
 |some l=>rw[q]at e k;obtain⟨p,r,u⟩:=Ho.mp e;obtain⟨b,f⟩:=bI<|cX.mp k p r;rw[iQ u]at b f;exact⟨iQ b,(Ak g).symm▸IR f⟩
 obtain⟨l,q,e⟩:=ob e;rw[q]at i;obtain⟨b,o⟩:=bI<|cX.mp i _<|xJ e;obtain⟨b,f⟩:=bI b;obtain⟨T,n,m⟩:=om<|Dd f;exact⟨⟨(Ak g).symm▸Dd b,n.trans m⟩,(mL _).mp o⟩
theorem aAV(a:F2 (Rf w B s c) j t)(g:fX d=aB)(h:lZ (key d) j=aA v):∃e,t.find? (·.key.isStr d)=aA e/\Rv w B s v e.val:=by
 induction j generalizing t with
 |nil=>exact nn h
 |cons p j f=>
  induction a with| @mk e t r a=>
  obtain⟨k,i⟩:=r.nm;change(if bZ p.1 (key d)then aA p.2 else lZ (key d) j)=_ at h;rw[aQC,i,Nd g r.k0];cases b:bZ p.1 (key d)with
  |true=>rw[b]at h;exact⟨e,rfl,aV h▸r.v⟩
  |false=>rw[b]at h;exact f a h
structure jO(w:aW)(B:Th)(s:aF)(p c:Nat)(j:List (Nat×V))(q:aM×aM)(t:List fB)(n:Nat):Prop where
 hq:B.ρ[p]? =aA q
 ne:q.1≠q.2
 hc:(iG c Ai).isSome=aB
 i:InstAt s.heap q.1 (EJ (fY c) q.2) (fY c) (aA<|jB t n)
 hl:t.length<=100
 hs:F2 (Rf w B s c) j t
theorem Jx(I:aJ w D B s)(f:D[p]? =aA (.g9 c j))(r:Rv w B s (.a9 p) x):∃q t n,x= .ref q.1/\jO w B s p c j q t n:=by
 induction r with|mk a=>
 cases I.w6 p _ _ f a with|mk e i g k h b=>exact⟨_,_,_,rfl,a,e,i,⟨g,rfl,rfl,k⟩,h,b⟩
theorem aL5(r:Rv w B s v x):handedIn x=aB:=by
 induction v using V.casesOn with
 |h9=>subst r;rfl
 |e8=>subst r;rfl
 |a5=>induction r;rfl
 |d9=>induction r;rfl
 |a8=>induction r;rfl
 |a7=>induction r;rfl
 |b7=>induction r;rfl
 |a9=>induction r;rfl
theorem Xe{e:Type}{f:Nat->Nat->List (Nat×V)->Option e}{r:e}(h:(match a with| .a9 p=>(match D[p]? with|some (.g9 c j)=>f p c j|_=>aC)|_=>aC)=aA r):∃p c j,a= .a9 p/\D[p]? =aA (.g9 c j)/\f p c j=aA r:=by
 cases a with
 |a9 p=>
  dsimp only at h;cases b:D[p]? with
  |none=>rw[b]at h;exact nn h
  |some o=>
   replace h:=b▸h;induction o using O.casesOn with
   |g9 c j=>exact⟨p,c,j,rfl,b,h⟩
   |_=>exact nn h
 |_=>exact nn h
theorem rK{a:Type}{b:Bool}{o:Option a}{r:a}(h:(match b with|true=>o|false=>aC)=aA r):b=aB/\o=aA r:=by
 induction b using eT with
 |true=>exact⟨rfl,h⟩
 |false=>exact nn h
theorem aD1{K:sG}{C:aM}{a:Option dE}{d:aX}{b:ClassData}{v:aD}(f:Qc K C=aA b)(e:yR K (.ref C) d=aA aC)(c:aQK b a d=aA (aA v)):findObj K C a d=aA (.value v):=by delta findObj;refine aE f ?_;show(yR K (.ref C) d).bind _=_;refine aE e ?_;show(aQK b a d).bind _=_;exact aE c rfl
theorem lh(I:aJ w D B s)(i:fX d=aB)(k:Rv w B s a x)(h:HG (key d) a D=aA v){f:Bool}{Q:aD->aF->Prop}(q:∀z,Rv w B s v z->Q z (tk s<|s.toks+1)):aL (Md w) A (getAttr x d f) Q E s:=by
 obtain⟨p,c,j,y,l,h⟩:=Xe (f:=λK c j=>match rP c (key d)with|true=>lZ (key d) j|false=>aC) h
 obtain⟨m,h⟩:=rK h;obtain⟨M,t,n,u,X⟩:=Jx I l<|y▸k;have C:=JU (w:=w) X.hc;obtain⟨e,o,g⟩:=aAV X.hs i h;obtain⟨N,b,r⟩:=uU C.O5;refine aE u ?_;refine get_value (v:=e.val) I.X X.i C.ga ?_ (aL5 g)<|q _ g;refine aD1 b (C.i6 d i m).2 ?_;delta aQK
 (refine aE r ?_;refine aE (bO rfl) ?_)
 show(match t.find? (·.key.isStr d)with|some e=>aA (aA e.val)|none=>if t.any (·.refKey)then aC else aA aC)=_
 exact aE o rfl
end
section
variable{w:aW}{L P:aH}{F N:Th}{s K:aF}{A:bN}{E:aD->aF->Prop}{x y z:aD}{a b k v u:V}{R:V->aH->Prop}{S:List aD}{l m:List V}{B:List fB}{p c:Nat}{j:aX}{H:List (Nat×V)}
theorem YY(k:Nat)(v:V)(l:List (Nat×V)):xH k v l=match l.findIdx? λp=>bZ p.1 k with|some i=>l.modify i λp=>(p.1,v)|none=>l++[(k,v)]:=by
 induction l with
 |nil=>rfl
 |cons p l a=>
  show(if bZ p.1 k then(p.1,v)::l else p::xH k v l)=_;refine aE (KQ) ?_;cases bZ p.1 k with
  |true=>rfl
  |false=>
   refine aE a ?_;show p::(match l.findIdx? _ with|some i=>_|none=>_)=match(l.findIdx? _).map (· +1)with|some i=>_|none=>_
   cases l.findIdx? λp=>bZ p.1 k<;>rfl
theorem aPP{b:Int}{a:Tok}(d:F2 (Rf w F s c) H B)(l:fX j=aB)(n:key (kP<|key j)=key j)(o:rP c (key j)=aB)(k:Rv w F s v x):
  F2 (Rf w F s c) (xH (key j) v H) (aQL (·.key.isStr j) (λe=>{e with val:=x}) ⟨b,.str j a,x⟩ B):=by
 have e:H.findIdx? (λp=>bZ p.1<|key j)=B.findIdx? λe=>e.key.isStr j:=d.J0 λp e r=>by obtain⟨t,h⟩:=r.nm;rw[h,Nd l r.k0]
 rw[YY,e];unfold aQL;cases B.findIdx? λe=>e.key.isStr j with
 |none=>exact d.j7 (.p9 ⟨⟨a,aN (Value.str · a)<|Ak l⟩,n,o,k⟩)
 |some i=>exact d.O9 (f:=λp=>(p.1,v)) (g:=λe=>{e with val:=x}) (λm m r=>⟨r.nm,r.k0,r.ok,k⟩) i
theorem xx(k:Nat):(xH k v H).length<=H.length+1:=by
 rw[YY];cases H.findIdx? _ with
 |none=>exact bW cM
 |some i=>exact uS<|bW<|aP9 ..
theorem XJ(a:F2 (Rf w F s c) H B):B.any (·.refKey)=aI:=List.any_eq_false.mpr λe b=>by obtain⟨p,_,r⟩:=a.m9 b;obtain⟨t,h⟩:=r.nm;unfold DictEntry.refKey;rw[h];exact cC
theorem xf(I:aJ w L F s)(T:fX j=aB)(ra:Rv w F s a x)(rv:Rv w F s v y)(h:GZ (key j) a v L=aA P){Q:Unit->aF->Prop}(q:∀K,aJ w P F K->Gd [] F s F K->Q () K):aL (Md w) A (setAttr x j y) Q E s:=by
 obtain⟨p,c,H,e1,ho,h⟩:=Xe (f:=λp c H=>match rP c (key j)&&mX H.length 100 with|true=>aA (L.set p<|.g9 c (xH (key j) v H))|false=>aC) h
 obtain⟨o,h⟩:=rK h;obtain⟨o,J⟩:=bI o;obtain⟨g,B,n,e2,X⟩:=Jx I ho<|e1▸ra;rw[e2];have C:=JU (w:=w) X.hc;obtain⟨M,hf⟩:=C.i6 j T o;obtain⟨cd,R,hd⟩:=uU C.O5;refine set_plain I.X X.i C.sa (osa_open (s:={s with toks:=s.toks+1}) (r:=aC) I.X X.i C.P7 (by unfold takerIn;rw[hf];rfl) λb=> ?_)
 have D:=X.i.dict;have z:=X.i.at_;dsimp only at D z⊢;have t:=PySem.putName_eq j (Hj w.params j) (.str j (s.toks+1)) y (.type "dict") aC B n #[];generalize hm:(if B.any (·.key.isStr j)then n else n+1)=m at t;have u:=aPP (b:=Hj w.params j) (a:=s.toks+1) X.hs T M o rv;generalize aQL (·.key.isStr j) (λe=>{e with val:=y}) ⟨Hj w.params j,.str j (s.toks+1),y⟩ B=d at t u
 have Z:(s.heap.update g.2<|bt j (Hj w.params j) (.str j (s.toks+1)) y).get? g.2=aA (jB d m):=by
  rw[wX _ D (by refine aE (show bt j _ _ y (jB B n)=jB d m from t) ?_;rfl)]
  exact aN aA t
 have i:d.length<=100:=u.f7▸aR (xx _) (bV J);have Y:=qA s.heap g.2<|bt j (Hj w.params j) (.str j (s.toks+1)) y;have U:=I.J9 (B:={s with heap:=s.heap.update g.2<|bt j (Hj w.params j) (.str j (s.toks+1)) y,toks:=s.toks+1+1}) (A:= .g9 c (xH (key j) v H)) X.hq (.inr rfl) Y rfl rfl
  λk=>wK.mk X.ne X.hc ((Y.2 _ X.ne).trans z) Z i<|u.j4 λl l l h=>⟨h.nm,h.k0,h.ok,k.rv h.v⟩
 refine aK (bA<|aK<|aK<|wpAny_loadPart z<|aK<|looks_clsIn I.X R _ _ _ _ (λl l e=>e) ?_);rw[hd];refine bA (a:=aA g.2)<|aK<|bA<|aK ?_;unfold nsSet;refine aK<|aK<|Qv<|bA<|aK<|wpAny_mkText<|aK<|wpAny_loadPart D ?_;dsimp only;have c0:(!B.toArray.any (·.key.isStr j)&&B.toArray.any (·.refKey))=aI:=by rw[show B.toArray.any (·.refKey)=aI from(Array.any_toList ..).symm.trans (XJ X.hs),Qm]
 rw[aRefKeyMayBeTheName_at,c0];refine wpAny_updatePart D (aK (wpAny_lookBehind Z (pastItsLine_dict (aR i (by rw[av];exact bV rfl))) ?_))
 cases aV h;exact bA<|q _ U.1 U.2
theorem aFS(I:aJ w L F s)(i:L[p]? =aA (.g9 c H))(r:Rv w F s (.a9 p) x)(d:fX j=aB){a:Nat}(k:tC c (key j)=aA a){g:eC Bool}{Q:aD×List aD->aF->Prop}(q:Q (.ref (fA a),[x]) s):aL (Md w) A (bu x j g) Q E s:=by
 obtain⟨v,B,n,u,X⟩:=Jx I i r;have C:=JU (w:=w) X.hc;obtain⟨m,b⟩:=C.f8 j a d k;rw[u]at q⊢;refine method_fn I.X X.i C.ga C.gt m.1 m.2 ?_ q;have o:B.find? (·.key.isStr j)=aC:=aTL.mpr λe l f=>by obtain⟨p,_,r⟩:=X.hs.m9 l;obtain⟨t,h⟩:=r.nm;rw[h,Nd d r.k0]at f;rw[←iQ f,r.ok]at b;exact iE b
 unfold shadowIn lookIn;show hV _ (match(jB B n).data with
  | .dict B _=>(match B.toList.find? (·.key.isStr j)with
   |some e=>aA<|aA e.val
   |none=>if B.toList.any (·.refKey)then aC else aA aC)
  |_=>aC)=aA aI
 simp only[o,XJ X.hs];rfl
theorem jc(I:aJ w L F s)(i:(iG c Ai).isSome=aB){e:Nat}(k:tC c 125959291554050015=aA e){xs:List aD}{T:pJ->aF->Prop}
  (q:∀(d:aM) N K,aJ w (L++[.g9 c []]) N K->Gd [] F s N K->Rv w N K (.a9 L.length) (.ref d)->lI (Md w) (A.under<|.builtin "type.__call__" ⟨.ref (fY c)::xs,[]⟩) (.call (.ref (fA e)) ⟨.ref d::xs,[]⟩) (InitBack d T) K):
  lI (Md w) A (.call (.ref (fY c)) ⟨xs,[]⟩) T s:=by
 have C:=JU (w:=w) i;obtain⟨m,_⟩:=C.f8 (cD "__init__") e (by decide+kernel) (by rw[show key (cD "__init__")=125959291554050015 by decide+kernel];exact k)
 have X:=I.X;have l:((s.heap.push Qw).push<|EJ (fY c) s.heap.objs.size).get? (s.heap.objs.size+1)=aA (EJ (fY c) s.heap.objs.size):=by have h:=kZ (s.heap.push Qw) (o:=EJ (fY c) s.heap.objs.size) rfl;rw[lH]at h;exact h
 have J:=I.j6 (B:={s with heap:=(s.heap.push Qw).push<|EJ (fY c) s.heap.objs.size}) (a:=s.heap.objs.size+1) (b:=s.heap.objs.size) (e:= .g9 c []) ((aU.u4 s Qw s.toks).j3<|aU.u4 _ _ s.toks) (jC _) (bT _)
  (wK.mk (es:=[]) (n:=0) (aQM _) i l (fC _<|kZ _ rfl) (eO _) rfl)
 have r:Rv w ⟨F.ρ++[(s.heap.objs.size+1,s.heap.objs.size)],F.F⟩ {s with heap:=(s.heap.push Qw).push<|EJ (fY c) s.heap.objs.size} (.a9 L.length) (.ref (s.heap.objs.size+1)):=RR.mk (q:=(s.heap.objs.size+1,s.heap.objs.size)) I.J2
 have Q:=q _ _ _ J.1 J.2 r;obtain⟨u,g,d,t,p⟩:=s;exact make_core (makes_of X C.u0) (looks_findIn X m.1) (λf=>bind_fn X f m.2) (.inl rfl) Q
end
section
variable{w:aW}{S P:aH}{D J:Th}{s K:aF}{A:bN}{E:aD->aF->Prop}{x y z:aD}{a b k v u:V}{f:aX}{C:cP}{L:Lc}{H:List aM}{B:dH}{F:iL}
theorem pw{c:Type}{R:c->c->Prop}(g:∀a b,R a b->R b a){l:List c}(h:l.Pairwise R){i j:Nat}{a b:c}(m:l[i]? =aA a)(k:l[j]? =aA b)(n:i≠j):R a b:=by obtain⟨e,p⟩:=iU.mp m;obtain⟨d,o⟩:=iU.mp k;rw[←p,←o];exact(aSW n).elim (Dj.mp h i j e d) λl=>g _ _<|Dj.mp h j i d e l
theorem Uv{a b:aX}(h:fX a=aB)(g:fX b=aB)(e:key a=key b):a=b:=by rw[Ak h,e];exact(Ak g).symm
structure tZ(p:aX×iL):Prop where
 n:fX p.1=aB
 d:(p.1==("__debug__":aX))=aI
 c:(p.1==("__classdict__":aX))=aI
 k:Sa p.2=aB
theorem Ea(h:AN C=aB)(p:aX×iL)(d:p∈C):tZ p:=by obtain⟨g,h⟩:=bI h;obtain⟨_,e⟩:=bI h;obtain⟨a,b⟩:=bI<|cX.mp g p d;obtain⟨a,c⟩:=bI a;exact⟨a,(mL _).mp c,(mL _).mp b,cX.mp e p d⟩
theorem Iq(a:∀p∈C,fX p.1=aB)(d:fX f=aB)(h:jM (key f) C=aA F):(f,F)∈C/\C.lookup f=aA F:=by
 induction C with
 |nil=>exact nn h
 |cons p r b=>
  change(if bZ (key p.1) (key f)then aA p.2 else jM (key f) r)=_ at h;rw[KP];cases e:bZ (key p.1) (key f)with
  |true=>have j:=Uv (a p<|.head _) d<|iQ e;rw[e]at h;rw[←j,lW,←aV h];exact⟨.head _,rfl⟩
  |false=>
   rw[e]at h;obtain⟨i,g⟩:=b (λp c=>a p<|.tail _ c) h;rw[show(f==p.1)=aI from beq_eq_false_iff_ne.mpr λq=>by rw[q,aPU]at e;exact iE e]
   exact⟨.tail _ i,g⟩
theorem MC(p:aX×iL)(r:cP):eD (p::r)=match p.2 with| .globalImplicit=>eD r|_=>if bZ (key p.1) 22320 then eD r else p::eD r:=by obtain⟨a,k⟩:=p;cases k<;>rfl
theorem DO{p:aX×iL}(h:p∈eD C):p∈C/\p.2≠ .globalImplicit:=by
 induction C with
 |nil=>exact(by contradiction)
 |cons q r d=>
  have c:p∈eD r->p∈q::r/\p.2≠ .globalImplicit:=λh=>⟨.tail _ (d h).1,(d h).2⟩;obtain⟨a,k⟩:=q;have b:k≠ .globalImplicit->p∈(if bZ (key a) 22320 then eD r else(a,k)::eD r)->p∈(a,k)::r/\p.2≠ .globalImplicit:=λn h=>by
   cases e:bZ (key a) 22320 with
   |true=>rw[e]at h;exact c h
   |false=>rw[e]at h;exact(dA.mp h).elim (λe=>⟨e▸ .head _,by rw[e];exact n⟩) c
  induction k with
  |globalImplicit=>exact c h
  |_=>exact b (λh=>(by contradiction)) h
theorem Ad(g:∀p∈C,fX p.1=aB)(l:uY f=aB)(h:jM (key f) C=aA F)(m:F≠ .globalImplicit):(eD C)[nG (key f) (eD C)]? =aA (f,F):=by
 obtain⟨n,c⟩:=bI l;have c:=(mL _).mp c;induction C with
 |nil=>exact nn h
 |cons p r b=>
  obtain⟨a,k⟩:=p;change(if bZ (key a) (key f)then aA k else jM (key f) r)=_ at h;have b:=b λp j=>g p<|.tail _ j;cases e:bZ (key a) (key f)with
  |true=>
   rw[e]at h;have i:k=F:=aV h;have o:eD ((a,k)::r)=(a,k)::eD r:=by
    rw[MC];dsimp only;rw[iQ e,c];induction k with
    |globalImplicit=>exact aZ i.symm m
    |_=>rfl
   rw[o];show((a,k)::eD r)[if bZ (key a) (key f)then 0 else _]? =_;rw[e,←Uv (g _<|.head _) n (iQ e),←i];rfl
  |false=>
   rw[e]at h;have d:((a,k)::eD r)[nG (key f) ((a,k)::eD r)]? =aA (f,F):=by show((a,k)::eD r)[if bZ (key a) (key f)then 0 else nG (key f) (eD r)+1]? =_;rw[e];exact b h
   rw[MC];induction k with
   |globalImplicit=>exact b h
   |_=>
    dsimp only;cases bZ (key a) 22320 with
    |true=>exact b h
    |false=>exact d
theorem RO(h:Nc C=aB):C.Pairwise λp q=>p.1≠q.1:=by
 induction C with
 |nil=>exact .nil
 |cons p r a=>obtain⟨d,c⟩:=bI h;exact .cons (λq b e=>by have t:=cX.mp d q b;rw[e,aPU]at t;exact iE t) (a c)
theorem aIP(C:cP):(eD C).Sublist C:=by
 induction C with
 |nil=>exact .slnil
 |cons p r b=>
  obtain⟨a,k⟩:=p;rw[MC];induction k with
  |globalImplicit=>exact .cons _ b
  |_=>
   dsimp only;cases bZ (key a) 22320 with
   |true=>exact .cons _ b
   |false=>exact .cons_cons _ b
theorem VG(h:AN C=aB){i j:Nat}{p q:aX×iL}(c:(eD C)[i]? =aA p)(b:(eD C)[j]? =aA q)(n:i≠j):p.1≠q.1:=
 pw (λa a h=>h.symm) ((RO (bI (bI h).2).1).sublist<|aIP C) c b n
theorem aJD{i j:Nat}(h:lg j (lp i v L)=aA u):(j=i/\u=v)\/(j≠i/\lg j L=aA u):=by
 induction L generalizing i j with
 |nil=>cases i<;>cases j<;>exact nn h
 |cons o r a=>induction i using fO with
  |zero=>induction j using fO with
   |zero=>exact .inl ⟨rfl,(aV h).symm⟩
   |succ j=>exact .inr ⟨(λh=>tY h),h⟩
  |succ i=>induction j using fO with
   |zero=>exact .inr ⟨(λh=>vU h),h⟩
   |succ j=>exact(a h).imp (λh=>⟨aN _ h.1,h.2⟩) λh=>⟨λe=>h.1<|nP e,h.2⟩
structure aO(w:aW)(H:List aM)(D:Th)(s:aF)(C:cP)(L:Lc)(B:dH):Prop where
 ok:AN C=aB
 n5:B.scope.kind= .function
 x9:∀f k,fX f=aB->jM (key f) C=aA k->B.kindOf f=aA k\/(k= .free/\B.kindOf f=aA .cell)
 gl:B.globals=qY
 bi:B.builtins=Df
 s4:∀a∈H,a∈D.F
 y6:B.locals∈H
 ns:∃m,s.heap.Ns B.locals m/\∀i f v,(eD C)[i]? =aA (f,.local)->lg i L=aA v->∃x,m f=aA x/\Rv w D s v x
 A8:∀i f,(eD C)[i]? =aA (f,.cell)->∃c u,(B.cells.lookup f=aA c/\c∈H/\c≠B.locals)/\s.heap.IsCell c u/\∀v,lg i L=aA v->∃x,u=aA x/\Rv w D s v x
 w9:∀i f,(eD C)[i]? =aA (f,.free)->∃c,(B.cells.lookup f=aA c/\c≠B.locals)/\∀v,lg i L=aA v->c∈D.F/\∃x,s.heap.IsCell c (aA x)/\Rv w D s v x
 o0:∀n n' c,(n,c)∈B.cells->(n',c)∈B.cells->n=n'
 A0:∀f c,B.cells.lookup f=aA c->c<s.heap.objs.size
theorem aO.i0(R:aO w H D s C L B):∀p∈C,fX p.1=aB:=λp a=>(Ea R.ok p a).n
theorem OI{c:aM}{u:Option aD}(h:s.heap.IsCell c u)(k:∀o,s.heap.get? c=aA o->K.heap.get? c=aA o):K.heap.IsCell c u:=h.elim λo a=>a.elim λd b=>⟨o,k _ d,b⟩
theorem aO.j4(R:aO w H D s C L B)(z:∀a∈D.F,a∈J.F)(b:∀a o,a∈D.F->(a∈H\/∃f,B.cells.lookup f=aA a)->s.heap.get? a=aA o->K.heap.get? a=aA o)(A:s.heap.objs.size<=K.heap.objs.size)(k:Kp D s J K):aO w H J K C L B:=by refine⟨R.ok,R.n5,R.x9,R.gl,R.bi,λa h=>z a<|R.s4 a h,R.y6,?_,λi f h=> ?_,λi f h=> ?_,R.o0,λf c h=>cO (R.A0 f c h) A⟩;obtain⟨m,⟨o,U,X,E,r⟩,I⟩:=R.ns;exact⟨m,⟨o,U,X,b _ _ (R.s4 _ R.y6) (.inl R.y6) E,r⟩,λi f v T Q=>(I i f v T Q).elim λx n=>n.elim λN M=>⟨x,N,k.rv M⟩⟩;obtain⟨c,u,d,t,Y⟩:=R.A8 i f h;exact⟨c,u,d,OI t λo=>b c o (R.s4 c d.2.1)<|.inl d.2.1,λv e=>(Y v e).elim λx l=>l.elim λq p=>⟨x,q,k.rv p⟩⟩;obtain⟨c,d,t⟩:=R.w9 i f h;exact⟨c,d,λv e=>(t v e).elim λy j=>j.elim λx g=>g.elim λq p=>⟨z c y,x,OI q λo=>b c o y<|.inr ⟨f,d.1⟩,k.rv p⟩⟩
theorem aO.gd(R:aO w H D s C L B)(I:aJ w S D s)(G:Gd [] D s J K):aO w H J K C L B:=
 R.j4 (λa h=>G.fr▸h) (λa o c d b=>G.i8 a o b (λh=>(by contradiction)) λh=>I.s8 a h c) G.i9 G.k0
theorem Wh(R:aO w H D s C L B)(j:uY f=aB)(n:jM (key f) C=aA F)(o:F≠ .globalImplicit)(h:lg (nG (key f)<|eD C) L=aA v){Q:aD->aF->Prop}(q:∀x,Rv w D s v x->Q x s):
  aL (Md w) A (loadName B f) Q E s:=by
 have i:=(bI j).1;have b:=Ad R.i0 j n o;have N:=Ea R.ok _ (DO<|fT b).1;have a:=R.x9 f F i n;have k:=N.k;induction F with
 |«local»=>obtain⟨m,r,z⟩:=R.ns;obtain⟨x,y,t⟩:=z _ f v b h;exact wpAny_loadName_local R.n5 (a.resolve_right λe=>nomatch e.1) r y (q x t)
 |cell=>obtain⟨c,u,g,l,I⟩:=R.A8 _ f b;obtain⟨x,e,d⟩:=I v h;exact aTM R.n5 (a.resolve_right λe=>nomatch e.1) g.1 (e▸l) (q x d)
 |free=>obtain⟨c,g,l⟩:=R.w9 _ f b;obtain⟨_,x,p,d⟩:=l v h;exact a.elim (λa=>aTN R.n5 a g.1 p (q x d) (hn:=N.c)) λa=>aTM R.n5 a.2 g.1 p<|q x d
 |globalImplicit=>exact aZ rfl o
 |_=>exact aZ k cC
theorem uv(R:aO w H D s C L B)(b:uY f=aB)(c:jM (key f) C=aA F)(d:F≠ .globalImplicit)(h:lg (nG (key f)<|eD C) L=aA v){a:cY}{Q:aD->aF->Prop}(q:∀x,Rv w D s v x->Q x s):
  aL (Md w) A (dJ (.Name f a) B) Q E s:=
 wpAny_Name (Wh R b c d h q) (Ea R.ok _ (DO<|fT<|Ad R.i0 b c d).1).d
end
section
variable{w:aW}{H J:aH}{l K:Th}{s F:aF}{A:bN}{E:aD->aF->Prop}{x y z:aD}{a b k v u:V}{d:aX}{p:cP}{L:Lc}{C:List aM}{f:dH}{D:iL}{B:dW}{t:Nat}
theorem HJ{a c:aM}{u:Option aD}(h:s.heap.IsCell c u)(e:lT a s.heap B)(n:c≠a):B.IsCell c u:=h.elim λo b=>b.elim λi g=>⟨o,(e.2 c n).trans i,g⟩
theorem NN(R:aO w C l s p L f)(I:aJ w H l s)(rv:Rv w l s v x)(hn:uY d=aB)(hk:jM (key d) p=aA D)(ho:DI D=aB){Q:Unit->aF->Prop}
  (q:∀F,aJ w H l F->Gd C l s l F->aO w C l F p (lp (nG (key d)<|eD p) v L) f->Q () F):aL (Md w) A (storeName f d x) Q E s:=by
 have hn1:=(bI hn).1;have S:=Ad R.i0 hn hk (λe=>by replace ho:=e▸ho;exact iE ho)
 generalize nG (key d) (eD p)=i at S q;have g:∀{j:Nat} {b:aX} {k':iL} {u:V},(eD p)[j]? =aA (b,k')->lg j (lp i v L)=aA u->(b=d/\k'=D/\u=v)\/(b≠d/\lg j L=aA u):=λ{j b k' u} hj h=>(aJD h).elim (λh9_=>h9_.elim λe M=>by replace hj:=e▸hj;have e3:=aV<|hj.symm.trans S;exact .inl ⟨aN Lh e3,aN Prod.snd e3,M⟩) λh10_=>h10_.elim λn h=> .inr ⟨VG R.ok hj S n,h⟩
 have hkk:=R.x9 d D hn1 hk;have wr:∀{a:aM} (ha:a∈C) {B:dW} {t:Nat} (r:lT a s.heap B) (_:aO w C l {s with heap:=B,toks:=t} p (lp i v L) f),Q () {s with heap:=B,toks:=t}:=λha q9 q9 r R'=>q _ (I.L4 (R.s4 _ ha) r).1 (aFP ha r) R'
 induction D with
 |«local»=>
  refine R.ns.elim λm o1_=>o1_.elim λhm h3=> ?_;refine wpAny_storeName_local (hkk.resolve_right λe=>nomatch e.1) hm (λB hn' r=> ?_) (by refine aE R.n5 ?_;rfl)
  have k:=(I.L4 (t:=s.toks+1) (R.s4 _ R.y6) r).2;refine wr R.y6 r ⟨R.ok,R.n5,R.x9,R.gl,R.bi,R.s4,R.y6,⟨_,hn',λj b u o M=> ?_⟩,λj b o=> ?_,λj b o=> ?_,R.o0,λd c h=>r.1.symm▸R.A0 d c h⟩;rcases g o M with⟨a1,_,a2⟩|⟨a1,a2⟩
  ·(refine aE (bO a1) ?_;refine aE a2 ?_);exact⟨x,rfl,k.rv rv⟩
  refine aE (bH a1) ?_;refine(h3 j b u o a2).elim λy o2_=>o2_.elim λb1 b2=> ?_;exact⟨y,b1,k.rv b2⟩;refine(R.A8 j b o).elim λc o3_=>o3_.elim λu o4_=>o4_.elim λz o5_=>o5_.elim λc2 c3=> ?_;exact⟨c,u,z,HJ c2 r z.2.2,λv e=>(g o e).elim (λh=>nomatch h.2.1) λh=>(c3 v h.2).elim λy h2_=>h2_.elim λN P=>⟨y,N,k.rv P⟩⟩;refine(R.w9 j b o).elim λc o6_=>o6_.elim λz c2=> ?_;exact⟨c,z,λv e=>(g o e).elim (λh=>nomatch h.2.1) λh=>(c2 v h.2).elim λhc h3_=>h3_.elim λy h4_=>h4_.elim λN P=>⟨hc,y,HJ N r z.2,k.rv P⟩⟩
 |cell=>refine(R.A8 i d S).elim λc o7_=>o7_.elim λu o8_=>o8_.elim λz o9_=>o9_.elim λc2 c3=> ?_;refine wpAny_storeName_cell R.n5 (hkk.resolve_right λe=>nomatch e.1) z.1 c2 λB hc' r=> ?_;have k:=(I.L4 (t:=s.toks) (R.s4 _ z.2.1) r).2;have ne:∀{b:aX} {T:aM},f.cells.lookup b=aA T->b≠d->T≠c:=λh n e=>n<|R.o0 _ _ _ (EM h)<|e▸EM z.1;refine R.ns.elim λm o10_=>o10_.elim λhm h3=> ?_;refine wr z.2.1 r ⟨R.ok,R.n5,R.x9,R.gl,R.bi,R.s4,R.y6,⟨m,hm.sameBut r z.2.2.symm,λj b u o M=> ?_⟩,λj b o=> ?_,λj b o=> ?_,R.o0,λd c h=>r.1.symm▸R.A0 d c h⟩;exact(g o M).elim (λh=>nomatch h.2.1) λh=>(h3 j b u o h.2).elim λy h5_=>h5_.elim λN P=>⟨y,N,k.rv P⟩;by_cases e:b=d;refine aE e ?_;exact⟨c,aA x,z,hc',λu M=>(g o M).elim (λh=>⟨x,rfl,h.2.2▸k.rv rv⟩) λh=>aZ e h.1⟩;refine(R.A8 j b o).elim λT Z=>Z.elim λu' Y=>Y.elim λN X=>X.elim λP d3=> ?_;exact⟨T,u',N,HJ P r<|ne N.1 e,λu M=>(g o M).elim (λh=>aZ h.1 e) λh=>(d3 u h.2).elim λy h6_=>h6_.elim λf1 f2=>⟨y,f1,k.rv f2⟩⟩;refine(R.w9 j b o).elim λT U=>U.elim λN P=> ?_;exact⟨T,N,λu M=>(g o M).elim (λh=>nomatch h.2.1) λh=>(P u h.2).elim λhc h7_=>h7_.elim λy h8_=>h8_.elim λf1 f2=>⟨hc,y,HJ f1 r<|ne N.1 h.1,k.rv f2⟩⟩
 |_=>exact aZ ho cC
noncomputable def Rg(w:aW)(l:Th)(s:aF):G->aD->Prop
 | .fn a=>λx=>x= .ref (fA a)
 | .s5 c=>λx=>x= .ref (fY c)
 | .bi b=>λx=>x=oS b
 | .ty n=>λx=>x=Ez n
 | .i4 v=>Rv w l s v
theorem aB9{o:Option (Option aD)}(h:Zk v o=aB):∃x,o=aA (aA x)/\Rv w l s v x:=by
 induction o using jP with
 |none=>exact aZ h cC
 |some o=>induction o using jP with
  |none=>exact aZ h cC
  |some x=>induction x with
   |int j t=>induction v using V.casesOn with
    |a5 i=>exact⟨_,rfl,jX (h:(i==j)=aB)▸RI.mk t⟩
    |_=>exact aZ h cC
   |str j t=>induction v using V.casesOn with
    |d9 i=>refine(bI h).elim λb a=> ?_;refine eJ (jX b) ?_;exact⟨_,rfl,RS.mk t<|bQ a⟩
    |_=>exact aZ h cC
   |_=>exact aZ h cC
theorem aF0{k:Nat}{g:G}(h:Pa (KK w) k g=aB):∃x,(BL (KK w) qY (kP k)=aA (aA x)\/DG (KK w) k x=aB)/\Rg w l s g x:=by
 induction g with
 |fn i=>exact⟨_,.inl (Dd h),rfl⟩
 |s5 c=>exact⟨_,.inl (Dd h),rfl⟩
 |bi b=>exact⟨_,.inr h,rfl⟩
 |ty n=>exact⟨_,.inr h,rfl⟩
 |i4 v=>obtain⟨x,e,a⟩:=aB9 h;exact⟨x,.inl e,a⟩
theorem Vx(R:aO w C l s p L f)(I:aJ w H l s)(c:fX d=aB)(n:jM (key d) p=aA .globalImplicit)(h:BL (KK w) qY (kP<|key d)=aA (aA x)\/DG (KK w) (key d) x=aB){Q:aD->aF->Prop}(q:Q x s):
  aL (Md w) A (loadName f d) Q E s:=by
 have g:=Ak c;have b:f.kindOf d=aA .globalImplicit:=(R.x9 d _ c n).resolve_right λe=>nomatch e.1;delta loadName Env.blockKind
 (refine aE R.n5 ?_;refine aE b ?_)
 show aL (Md w) A (loadGlobal f d) Q E s;delta loadGlobal
 (refine aE R.gl ?_;refine aE R.bi ?_)
 refine h.elim (λh=> ?_) (λh=> ?_)
 ·replace h:=(g).symm▸h;exact aK<|(looks_nsIn I.X h).here<|bA q
 ·refine(bI h).elim λk e=> ?_;refine(bI e).elim λj i=> ?_;refine I.b0.elim λr a=>a.elim λo m=> ?_;rw[←g]at k j i;refine aK ((looks_nsIn I.X<|IR k).here<|aK<|wpAny_nsGet o ?_)
  (refine aE (m d<|bne_iff_ne.mp i) ?_;refine aE (jX j) ?_);exact bA q
theorem Fq(R:aO w C l s p L f)(I:aJ w H l s)(c:fX d=aB)(e:jM (key d) p=aA .globalImplicit){g:G}(i:rX (key d) oY=aA g){b:cY}{Q:aD->aF->Prop}(q:∀x,Rg w l s g x->Q x s):
  aL (Md w) A (dJ (.Name d b) f) Q E s:=by
 refine((xT w).gl _<|xJ i).elim λk j=> ?_;refine(aF0 (w:=w) (l:=l) (s:=s) j).elim λx a=>a.elim λh r=> ?_;exact wpAny_Name (Vx R I c e h<|q x r)<|(Ak c).symm▸k
end
section
structure Ar(d:Nat)(A:bN):Prop where
 v8:A.handled=aC
 D9:A.depth+3*d+1<Li
 C0:A.units+150*d+300<dO
theorem Ar.y9{d:Nat}{A:bN}(h:Ar d A):A.units+60<dO:=fZ (iR (dI _ _)<|bV rfl) h.C0
noncomputable abbrev Rn(C:cR)(k:Co)(K:PF)(B:List V)(L:Lc):V->aH->Prop:=λv=>aS C k K (v::B) L
noncomputable def eV(C:cR)(w:aW)(A:bN)(Z:cP)(c:aT->Co->Co):Prop:=∀{f:List aM} {j:dH} {e:aT} {k:Co} {K:PF} {B:List V} {L:Lc} {D:aH} {F:Th} {s:aF} {E:aD->aF->Prop},
 aS C (c e k) K B L D->aJ w D F s->aO w f F s Z L j->aL (Md w) A (dJ e j) (Nx w F s<|Rn C k K B L) E s
inductive Nl (w:aW) (F:Th) (s:aF) (R:List V->aH->Prop) (xs:List aD) (Y:aF):Prop
 |mk {X:List V} {U:aH} {N:Th} (I:aJ w U N Y) (G:Gd [] F s N Y) (r:Rl w N Y X xs) (q:R X U)
variable{C:cR}{w:aW}{D U:aH}{F N:Th}{s Y:aF}{A:bN}{E:aD->aF->Prop}{x y z:aD}{a b v u:V}{Z:cP}{L:Lc}{f:List aM}{j:dH}{k:Co}{K:PF}{B X:List V}{c:aT->Co->Co}{e:aT}{J:List aT}{R:V->aH->Prop}
theorem HZ{m:eC (List aD)}{S:List V->aH->Prop}{Q:List aD->aF->Prop}(h:aL (Md w) A m (Nl w F s S) E s)(k:∀xs Y X U N,aJ w U N Y->Gd [] F s N Y->Rl w N Y X xs->S X U->Q xs Y):aL (Md w) A m Q E s:=
 dP h (λx Y n=>by induction n with|mk I G r q=>exact k x Y _ _ _ I G r q) λa a e=>e
structure pT(e:aT)(j:dH)(rest:List aT):Prop where
 s:sI (e::rest) j=(aI,dJ e j)::sI rest j
 a:Lj (e::rest) j=(aI,tL e j)::Lj rest j
theorem yF{a:List aT}(h:oP e=aB):pT e j a:=by cases e<;>first|exact⟨rfl,rfl⟩|exact aZ h cC
theorem el{b:Type}{o:Option b}{g:Co}{a:b->Co}{P:Prop}(h:aS C (o.elim g a) K B L D)(c:∀q,o=aA q->aS C (a q) K B L D->P)(d:aS C g K B L D->P):P:=by
 induction o using jP with
 |none=>exact d h
 |some q=>exact c q rfl h
theorem Gy{a:cY}(h:J.all oP=aB):(uV a<|sI J j).any (·.1)=aI:=by
 induction J with
 |nil=>rfl
 |cons e r b=>obtain⟨d,c⟩:=bI h;rw[(yF d).s];exact b c
noncomputable abbrev pC(n:Nat)(S:List V->aH->Prop)(B:List V):List V->aH->Prop:=λX D=>X.length=n/\S (X.reverse++B) D
theorem Ti{T:List V->List V->Prop}{b acc:List V}(h:uG b.length (b++B) acc T):T (b.reverse++acc) B:=by
 induction b generalizing acc with
 |nil=>exact h
 |cons a r c=>rw[Di,dK];exact c h
theorem pC.w8{n:Nat}{S:List V->aH->Prop}{T:List V->List V->Prop}(h:pC n S B X D)(e:S (X.reverse++B) D=uG n (X.reverse++B) [] T):T X B:=by have q:=h.2;rw[e,←h.1,←KY]at q;have:=Ti q;rw[Lk,fS]at this;exact this
theorem PY(P:eV C w A Z c){u:cY}(M:J.all oP=aB)(h:aS C (vM c J k) K B L D)(I:aJ w D F s)(R:aO w f F s Z L j):aL (Md w) A (Qx<|uV u<|sI J j) (Nl w F s<|pC J.length (λB=>aS C k K B L) B) E s:=by
 induction J generalizing B D F s with
 |nil=>exact bv<|.mk (X:=[]) I (.n7 _ _ _) rfl ⟨rfl,h⟩
 |cons e r H=>obtain⟨S,Q⟩:=bI M;refine Qy (Nx.go (P h I R) λx z v p t n d i l=>HZ (H Q l n<|R.gd I d) λxs y X o q m b g a=> .mk (X:=v::X) m (d.j3 b) (.mk (b.k0.rv i) g) ⟨aN EI a.1,?_⟩) (yF S).s;rw[Di,dK];exact a.2
theorem iS{b:Bool}(h:aS C (hM b k) K B L D):b=aB/\aS C k K B L D:=by
 induction b using eT with
 |true=>exact⟨rfl,h⟩
 |false=>exact h.elim
structure kJ(C:cR)(c:aT->Co->Co)(J:List aT)(k:Co)(K:PF)(B:List V)(L:Lc)(D:aH):Prop where
 n:J.all oP=aB
 l:J.length<=cF
 r:aS C (vM c J k) K B L D
theorem xV(h:aS C (kD c J k) K B L D):kJ C c J k K B L D:=
 have b:=iS h;have a:=bI b.1
 ⟨a.1,aR (bV a.2)<|bV rfl,b.2⟩
theorem aGN(p:eV C w A Z c){n:Nat}{l:cY}(h:aS C (kD c J<|.a8 J.length k) K B L D)(I:aJ w D F s)(R:aO w f F s Z L j):aL (Md w) A (dJ (.Tuple J n l) j) (Nx w F s<|Rn C k K B L) E s:=by have H:=xV h;refine wpAny_Tuple<|HZ (PY p H.n H.r I R) λxs m X g i d e a b=> ?_;have o:xs.length<=cF:=aR (bW<|a.f7.trans b.1) H.l;exact⟨jN o,(Kx d o a<|b.w8 rfl).tr e⟩
theorem jr(p:eV C w A Z c){b:Bool}{n:cY}(h:aS C (kD c J<|.a7 J.length (mu b k)) K B L D)(I:aJ w D F s)(R:aO w f F s Z L j):aL (Md w) A (dJ (.List J n) j) (Nx w F s<|Rn C k K B L) E s:=by
 have H:=xV h;refine wpAny_List<|HZ (PY p H.n H.r I R) λxs o X l m e g a d=> ?_;have i:xs.length<=cF:=aR (bW<|a.f7.trans d.1) H.l;have q:=d.w8 rfl;induction b using eT with
 |false=>exact⟨jN i,(Ox e i a q).tr g⟩
 |true=>exact⟨jN i,(aOA e i a q).tr g⟩
theorem ki(a b c:aX):a++b++c=a++(b++c):=aN bp<|Array.append_assoc ..
theorem aMN(a:aX):a++yQ=a:=aN bp<|Array.append_empty ..
theorem qc(a:aX):yQ++a=a:=aN bp<|Array.empty_append ..
theorem MU{i:Int}(h:nT i=aB):i.natAbs.log2<1920:=by obtain⟨b,a⟩:=bI h;have b:=bQ b;have a:=bQ a;by_cases c:i.natAbs=0;rw[c];decide;exact cO ((Nat.log2_lt c).mpr (show i.natAbs<2^64 from tK.mp (be ((Int.natAbs_eq i).elim (λe=>Qo (aTO e.symm) a) λe=>Int.lt_of_neg_lt_neg<|aTP b<|aTO e) (by decide)))) (by decide)
theorem VB{i:Int}(h:nT i=aB):(sX i).length<=cF:=by
 have e:=int_text_length_le (k:=1920) (by decide) (MU h)
 unfold sX cF;rw[PySem.ofString_length];exact aR e (by decide)
theorem aB0(I:aJ w D F s)(r:Rv w F s a x)(h:iX 8 a D=aA v){Q:aD->aF->Prop}(q:∀y t k,v= .d9 y->y.length<=cF->Q (.str y t) (tk s k)):aL (Md w) A (formatField x yQ) Q E s:=by
 obtain⟨u,e,b⟩:=ob h;have r:=lE I r e;cases u with
 |a5 i=>
  induction r with|mk t=>
  change gI (nT i) _=_ at b;cases c:nT i with
  |false=>rw[c]at b;exact nn b
  |true=>rw[c]at b;exact wpAny_formatField_int (MU c)<|q _ _ _ (aV b).symm<|VB c
 |d9 y=>
  induction r with|mk t d=>
  exact wpAny_formatField_str (q _ _ s.toks (aV b).symm d) (q _ _ _ (aV b).symm d) (jN d)
 |_=>exact nn b
theorem th{c:EE}{t:aX}(h:MW c=aA t):c= .str t:=by
 induction c with
 |str i=>exact aN _<|aV h
 |_=>exact nn h
theorem aJ3(z:eV C w A Z c)(h:aS C (Hc c e k) K B L D)(I:aJ w D F s)(R:aO w f F s Z L j):aL (Md w) A (dJ e j) (Nx w F s λv D=>∃y,v= .d9 y/\y.length<=cF/\aS C k K (.d9 y::B) L D) E s:=by
 unfold Hc at h;cases u:UY e with
 |some p=>
  rw[u]at h;rw[p.2];refine wpAny_FormattedValue_plain<|Nx.go (z h I R) λx b v m n a l d g=> ?_;induction g with|of q r=>
  refine aB0 a d q λy t k e i=> ?_;rw[e]at r;exact(Nx.l8 (v:= .d9 y) a (.n6 b k) (RS.mk t i) ⟨y,rfl,i,r⟩).tr l
 |none=>
  rw[u]at h;cases o:(Ph e).bind λc=>MW c.1.1 with
  |none=>rw[o]at h;exact h.elim
  |some t=>rw[o]at h;obtain⟨q,M⟩:=iS h;obtain⟨p,_,H⟩:=ob o;rw[p.2,th H];have i:=bQ q;exact aTQ<|.l8 (v:= .d9 t) I (.n6 s _) (RS.mk _ i) ⟨t,rfl,i,M⟩
theorem aK9(a b:aX):(a++b).length=a.length+b.length:=Qu ..
theorem jh(hE:eV C w A Z c){acc:aX}{Q:aX->aF->Prop}(h:aS C (vM (Hc c) J k) K B L D)(o:acc.length+J.length*cF<=rD)(I:aJ w D F s)(R:aO w f F s Z L j)
  (q:∀a Y U N X t,aJ w U N Y->Gd [] F s N Y->Be X=aA t->a=acc++t->a.length<=rD->pC J.length (λB=>aS C k K B L) B X U->Q a Y):Joins (Md w) A E (Hq J j) acc Q s:=by
 induction J generalizing B D F s acc Q with
 |nil=>exact q acc s D F [] yQ I (.n7 _ _ _) rfl (aMN acc).symm (aR (dI _ _) o) ⟨rfl,h⟩
 |cons e r H=>
  refine Nx.go (aJ3 hE h I R) λx n v l m i d b ⟨y,e,P,g⟩=> ?_;rw[e]at b;induction b with|mk t _=>
  have u:(acc++y).length+r.length*cF<=rD:=by rw[aK9,kX];refine aR (fG ?_ _) o;rw[kY,AC,aQN];exact fG P _
  refine⟨y,t,rfl,aR (dI _ _) u,H g u i (R.gd I d) λa Y U N X z I' G' T S M p=>q a Y U N (.d9 y::X) (y++z) I' (d.j3 G') (aN (hV (y++·)) T) (by rw[S,ki]) M ⟨aN EI p.1,?_⟩⟩
  rw[Di,dK];exact p.2
theorem aE1(y:eV C w A Z c){i:cY}(h:aS C (hM (jV 2 J.length&&jV J.length 15)<|vM (Hc c) J<|.D6 J.length k) K B L D)(I:aJ w D F s)(R:aO w f F s Z L j):aL (Md w) A (dJ (.JoinedStr J i) j) (Nx w F s<|Rn C k K B L) E s:=by
 obtain⟨M,H⟩:=iS h;obtain⟨m,z⟩:=bI M;have P:∀{Q:aX->aF->Prop},(∀a Y,(a.length<=rD/\Nx w F s (Rn C k K B L) (.str a Y.toks) {Y with toks:=Y.toks+1})->Q a Y)->Joins (Md w) A E (Hq J j) yQ Q s:=λ{Q} q=>by
  refine jh y H ?_ I R λa Y U N X t S T u l p x=> ?_;rw[show yQ.length=0 from rfl,jH,av];exact aR (BQ _<|bV z)<|bV rfl;rw[qc]at l;have o:=x.w8 rfl;induction o with|of b g=>
  rw[u]at b;change gI (aQ<|t.length<=cF) _=_ at b;cases d:aQ (t.length<=cF)with
  |false=>rw[d]at b;exact nn b
  |true=>rw[d]at b;rw[←aV b]at g;rw[←l]at d g;exact q a Y ⟨p,(Nx.l8 (v:= .d9 a) S (.n6 Y _) (RS.mk _<|bQ d) g).tr T⟩
 induction J using bM with
 |nil=>exact aZ m cC
 |cons e r=>induction r using bM with
  |nil=>exact aZ m cC
  |cons e2 r=>exact wpAny_JoinedStr<|P λn n h=>h
end
section
variable{w:aW}{p j:aH}{r l:Th}{s f:aF}{A:bN}{E:aD->aF->Prop}{x y z:aD}{v u:V}{I a:aM}{i:Nat}{c:List aD}
noncomputable abbrev KC(I:aM)(s:aF)(E:aD->aF->Prop):Prop:=∀a e,EN I s.heap a->s.heap.objs.size<=a.objs.size->bw {s with heap:=a} (.ref e) "StopIteration"->E (.ref e) {s with heap:=a}
theorem DK{n:Nat}{h:dW}{o:dE}(z:n<=h.objs.size):n<=(h.push o).objs.size:=aR z<|aR (jC _)<|bW (lH ..).symm
theorem MI{b:Type}{H:dW}{Q:b->aF->Prop}(d:A.handled=aC)(g:EN I s.heap H)(z:s.heap.objs.size<=H.objs.size)(q:KC I s E):aL (Md w) A (bx (.type "StopIteration") []>>=bz (α:=b)) Q E {s with heap:=H}:=by
 refine aK ?_;delta bx newTuple;refine aK (yY ?_ (by size_fits))
 refine aK (m:=firstArgMember _ _) (cf (a:=AF) (by first|rfl|(simp only[firstArgMember];rfl)) ?_)
 refine yY ?_ (by size_fits)
 delta bz;refine aK<|wpAny_handled ?_;refine aE d ?_;refine aK<|bA<|wpAny_throw ?_;exact q _ _ ((g.push _).push _) (DK<|DK z) ⟨_,kZ _ rfl,rfl⟩
noncomputable abbrev kC(b:Bool)(h:dW)(I a:aM)(i:Nat):Prop:=∃o,h.get? I=aA o/\o.cls= .type (bif b then "tuple_iterator"else "list_iterator")/\o.data= .fields #[.ref a,.int i 0]
noncomputable abbrev iM(b:Bool)(h:dW)(a:aM)(c:List aD):Prop:=∃o,h.get? a=aA o/\o.cls= .type (bif b then "tuple"else "list")/\∃n,o.data= .seq c.toArray n
structure An(N:dW->Nat->Prop)(v:Option aD)(I:aM)(i:Nat)(s:aF)(Q:aD->aF->Prop)(hh:Prop)(E:aD->aF->Prop):Prop where
 q:∀x,v=aA x->∀h',N h' (i+1)->lT I s.heap h'->Q x {s with heap:=h'}
 e:v=aC->hh/\KC I s E
theorem Ve{b:Bool}{B:Builtin}(F:B=Builtin.«list_iterator.__next__»\/B=Builtin.«tuple_iterator.__next__») (m:kC b s.heap I a i) (z:iM b s.heap a c) {Q:aD->aF->Prop} (q:An (λh=>kC b h I a) c[i]? I i s Q (A.handled=aC) E):
  aL (Md w) A (B ⟨[.ref I],[]⟩) (λt f=>∃v,t= .done (.ret v)/\Q v f) E s:=by
 obtain⟨o,e,D,d⟩:=m;obtain⟨H,k,_,J,n⟩:=z;have u:∀x,c[i]? =aA x->Q x {s with heap:=s.heap.update I (Hr (·.setIfInBounds 1 (lV<|i+1)))}:=λx g=>q.q x g _ ⟨_,wX _ e<|aTR<|cg d _,(aTS ..).trans D,by rw[cg d];simp[lV]⟩ (qA ..)
 rw[←wV]at u q;rcases F with rfl|rfl
 all_goals
  show aL _ _ (Hs (.ref I) 0>>=_) _ _ s;refine aK<|yX e d (x:= .ref a) rfl ?_;show aL _ _ (if(tJ a==AF)=aB then _ else _) _ _ s;rw[bH (show ¬((tJ a==AF)=aB)from cC)];show aL _ _ (Hs (.ref I) 1>>=_) _ _ s;refine aK<|yX e d (x:= .int i 0) rfl ?_;show aL _ _ (cj (.ref a)>>=_) _ _ s;refine aK<|zC k n ?_;simp only[Ll];cases g:c.toArray[i]? with
  |none=>obtain⟨C,y⟩:=q.e g;exact aK (BN (aK (BR e d (by simp) (MI C (qA ..).extBut (bW (Qz ..).symm) y))))
  |some x=>exact aK (BR e d (by simp) (bA ⟨x,rfl,u x g⟩))
theorem WA{b:Bool}(d:kC b s.heap I a i)(k:iM b s.heap a c){Q:Option aD->aF->Prop}(q:An (λh=>kC b h I a) c[i]? I i s (λx=>Q<|aA x) (A.handled=aC) E):aL (Md w) A (callSpecial? (.ref I)<|cD "__next__") Q E s:=by
 have⟨o,e,g,_⟩:=d;induction b using eT with
 |false=>exact wW ⟨o,e,g⟩ aTT<|nN aTT ⟨o,e,g⟩ entry_listiter_next (Ve (.inl rfl) d k q)<|args_listiter_next _
 |true=>exact wW ⟨o,e,g⟩ aTU<|nN aTU ⟨o,e,g⟩ F.entry_tuple_iterator_next (Ve (.inr rfl) d k q)<|F.args_tuple_iterator_next_1 _
noncomputable abbrev GE(I:aM)(s:aF)(Q:Option aD->aF->Prop):Prop:=∀a,EN I s.heap a->s.heap.objs.size<=a.objs.size->Q aC {s with heap:=a}
theorem NQ{Q:Option aD->aF->Prop}(q:GE I s Q):KC I s (λe f=>aL (Md w) A (do if ←ak e (.type "StopIteration")then bB aC else throw e) Q E f):=λh e g d a=>aK<|EO (T:= "StopIteration") (b:=aB) a aQO<|bA<|q h g d
theorem Kv{b:Bool}(g:kC b s.heap I a i)(o:iM b s.heap a c){Q:Option aD->aF->Prop}(q:∀x,c[i]? =aA x->∀d,kC b d I a (i+1)->lT I s.heap d->Q (aA x) {s with heap:=d})(e:c[i]? =aC->A.handled=aC/\GE I s Q):aL (Md w) A (jI<|.ref I) Q E s:=by unfold jI;exact aK<|BU<|WA g o ⟨λx k d n m=>bA<|q x k d n m,λh=>⟨(e h).1,NQ (e h).2⟩⟩
theorem Va{b:Bool}(d:kC b s.heap I a i)(k:iM b s.heap a c){Q:aD->aF->Prop}(q:An (λh=>kC b h I a) c[i]? I i s Q (A.handled=aC) E):aL (Md w) A (ck<|.ref I) Q E s:=by unfold ck;exact aK<|WA d k ⟨λx e m n g=>bA<|q.q x e m n g,q.e⟩
theorem aHD{x left b:Int}{Q:Option aD->aF->Prop}(g:A.handled=aC)(a:IsRangeIter s.heap I x left b)(d:left<=0)(q:GE I s Q):aL (Md w) A (jI<|.ref I) Q E s:=by
 have e:s.TypeIs (.ref I) "range_iterator":=⟨_,a,rfl⟩;unfold jI;refine aK (BU (wW (name:=cD "__next__") e aTV
  (nN aTV e F.entry_range_iterator_next ?_<|F.args_range_iterator_next_1 _)))
 show aL _ _ (Hs (.ref I) 0>>=_) _ _ s;refine aK<|yX a rfl (x:=lV x) rfl ?_;show aL _ _ (Hs (.ref I) 1>>=_) _ _ s;refine aK<|yX a rfl (x:=lV left) rfl ?_;show aL _ _ (Hs (.ref I) 2>>=_) _ _ s;refine aK<|yX a rfl (x:=lV b) rfl ?_;show aL _ _ (if left<=0 then _ else _) _ _ s;rw[bO d];exact aK<|BN<|aK<|MI (s:=s) (A:=A.in1) g (Heap.ExtBut.refl I s.heap) (bT _)<|NQ q
theorem SG{d:aM}{n:Nat}{b:List fB}{Q:Option aD->aF->Prop}(t:A.handled=aC)(a:s.heap.IsKeyIter I d i b.length n)(g:s.heap.get? d=aA (jB b n))(m:b.length<=i)(q:GE I s Q):aL (Md w) A (jI<|.ref I) Q E s:=by
 obtain⟨o,h,u,k⟩:=id a;unfold jI;refine aK (BU (wW (name:=cD "__next__") a.typeIs QA
  (nN QA a.typeIs aTW ?_<|aTX _)))
 refine aK (bA ?_);refine aK ?_;refine aK ?_;refine aK<|cm a.typeIs<|bA ?_;refine aK<|Lm h k ?_;show aL _ _ (if(tJ d==AF)=aB then _ else _) _ _ s;rw[bH (show ¬((tJ d==AF)=aB)from cC)];refine aK<|bA<|aK<|aw g rfl ?_;rw[bH (by rw[Ht,bne_self_eq_false];exact cC)]
 refine aK (bA<|aK<|aQP g rfl ?_);rw[bH (by rw[bne_self_eq_false];exact cC)]
 refine bA ?_;show aL _ _ (match(if(i:Int)<0 then aC else b.toArray[(i:Int).toNat]?)with|some e=>_|none=>_) _ _ s
 rw[bH (EK.mpr<|uT i),Ll,wV,uW m];refine aK<|aK<|cm a.typeIs<|bA ?_;show aL _ _ (setField (.ref I) 0 .none>>=_) _ _ s;exact aK (BR h k (by simp) (MI (s:=s) (A:=A.in1) t (qA ..).extBut (bW (Qz ..).symm)<|NQ q))
end
section
variable{w:aW}{C L:aH}{j F:Th}{s H:aF}{A:bN}{E:aD->aF->Prop}{x y z:aD}{v u:V}{I a:aM}{i n:Nat}{J:List aD}{B:Sr}{f:List V}{t:aT}{l:List aM}
structure iY(w:aW)(A:bN)(t:aT)(B:Sr)(f:List V)(I:aM)(l:List aM)(N:Nat->Th->aF->Prop):Prop where
 G0:∀{i:Nat} {j:Th} {s:aF} {C:aH} {v:V} {E E':aD->aF->Prop} {Q:aD->aF->Prop},N i j s->(∀a∈l,a∈j.F)->aJ w C j s->lM B f C->f[i]? =aA v->(∀y H,bJ l s H->Rv w j H v y->N (i+1) j H->Q y H)->
  aL (Md w) A (jI<|.ref I) (λr s₁=>∃y,r=aA y/\aL (Md w) A (Lp t (.ref I) y) (λq9 s₂=>Q y s₂) E' s₁) E s
 E7:∀{i:Nat} {j:Th} {s:aF} {C:aH} {E:aD->aF->Prop} {Q:Option aD->aF->Prop},N i j s->(∀a∈l,a∈j.F)->aJ w C j s->lM B f C->f[i]? =aC->(∀H,bJ l s H->Q aC H)->aL (Md w) A (jI<|.ref I) Q E s
 i8:∀{i:Nat} {j F:Th} {s H:aF},N i j s->Kp j s F H->(∀a∈l,∀o,s.heap.get? a=aA o->H.heap.get? a=aA o)->N i F H
 v4:∀{i:Nat} {j:Th} {s:aF} {E:aD->aF->Prop} {Q:aD->aF->Prop},N i j s->Q (.ref I) s->aL (Md w) A (rE<|.ref I) Q E s
noncomputable def Mj(T:String):Bool:=["enumerate","zip","dict_itemiterator","dict_reverseitemiterator","odict_iterator","itertools.zip_longest","itertools.pairwise"].contains T
theorem aCJ{T:String}{h:Array aD}{o:dE}(c:s.heap.get? I=aA o)(e:o.cls= .type T)(d:o.data= .fields h)(g:Mj T=aI){Q:Unit->aF->Prop}(q:Q () s):aL (Md w) A (Lp t (.ref I) y) Q E s:=by
 have b:aL (Md w) A (Lp (.Tuple [] qX qX) (.ref I) y) Q E s:=by
  induction y with
  |ref a=>
   refine aK (Lq c ?_)
   (refine aE e ?_;refine aE d ?_)
   show aL _ _ (if(Mj T&&_)=aB then _ else _) _ _ _;rw[g,Bool.false_and,bH cC];exact bA q
  |_=>exact bA q
 cases t with
 |Tuple=>exact b
 |List=>exact b
 |_=>exact bA q
structure mO(w:aW)(A:bN)(B:Sr)(f:List V)(I:aM)(HI:dW->Nat->Prop)(CT:Th->aF->Prop):Prop where
 e9:∀{i:Nat} {j:Th} {s:aF} {C:aH} {v:V} {E:aD->aF->Prop} {Q:Option aD->aF->Prop},HI s.heap i->CT j s->aJ w C j s->lM B f C->f[i]? =aA v->
  (∀y h' k,Rv w j s v y->HI h' (i+1)->lT I s.heap h'->Q (aA y) {s with heap:=h',toks:=k})->aL (Md w) A (jI<|.ref I) Q E s
 E7:∀{i:Nat} {j:Th} {s:aF} {C:aH} {E:aD->aF->Prop} {Q:Option aD->aF->Prop},HI s.heap i->CT j s->aJ w C j s->lM B f C->f[i]? =aC->GE I s Q->aL (Md w) A (jI<|.ref I) Q E s
 i8:∀{h h':dW} {i:Nat},HI h i->(∀o,h.get? I=aA o->h'.get? I=aA o)->HI h' i
 kp:∀{j F:Th} {s H:aF},CT j s->Kp j s F H->CT F H
 Q3:∀{h:dW} {i:Nat},HI h i->∃o T fs,h.get? I=aA o/\o.cls= .type T/\o.data= .fields fs/\Mj T=aI
 v4:∀{i:Nat} {s:aF} {E:aD->aF->Prop} {Q:aD->aF->Prop},HI s.heap i->Q (.ref I) s->aL (Md w) A (rE<|.ref I) Q E s
theorem mO.P8{M:dW->Nat->Prop}{N:Th->aF->Prop}(K:mO w A B f I M N):iY w A t B f I [I] λi j s=>M s.heap i/\N j s:=
 ⟨λ{i j s C v E E' Q} n u l g d q=>K.e9 n.1 n.2 l g d λy D k r m a=>⟨y,rfl,by
   have c:=bJ.u9 (t:=k) a;have p:=c.kp u;obtain⟨o,T,Z,R,U,S,X⟩:=K.Q3 m;exact aCJ (s:={s with heap:=D,toks:=k}) R U S X (q y _ c (p.rv r) ⟨m,K.kp n.2 p⟩)⟩,
  λn u l g d q=>K.E7 n.1 n.2 l g d λD x z=>q _ ⟨λb o e P=>x b o (λY=>P<|Y▸ .head _) e,z,rfl,rfl⟩,
  λn k h=>⟨K.i8 n.1<|h I<|.head _,K.kp n.2 k⟩,λn q=>K.v4 n.1 q⟩
noncomputable def uE(b:Bool)(l:List V):V:=match b with
 |true=> .a8 l
 |false=> .a7 l
theorem Nu{b:Bool}{l:List V}(r:Rw w j s (uE b l) (.ref a)):∃J,iM b s.heap a J/\J.length<=cF/\Rl w j s l J:=by
 induction b using eT with
 |true=>cases r with|mk c _ e d=>exact⟨_,c,e,d⟩
 |false=>cases r with|mk c _ e d=>exact⟨_,c.s9,e,d⟩
theorem wb{b:Bool}(N:A.handled=aC)(i:∀C,lM B f C->eK v C=aA (uE b f)):mO w A B f I (λh=>kC b h I a) λj s=>Rv w j s v (.ref a):=by
 refine⟨λn c E t p q=> ?_,λn c E t p q=> ?_,λn h=>n.elim λo D=>D.elim λg r=>⟨o,h o g,r⟩,λc k=>k.rv c,λn=>n.elim λo z=>z.elim λg u=>u.elim λl P=>⟨o,_,_,g,l,P,by cases b<;>decide⟩,λn q=> ?_⟩
 obtain⟨J,g,_,l⟩:=Nu<|lE E c<|i _ t;obtain⟨y,K,r⟩:=l.at p;exact Kv n g (λx m Q M d=>q x Q _ (aV (K.symm.trans m)▸r) M d) λe=>nn<|e.symm.trans K;obtain⟨J,g,_,l⟩:=Nu<|lE E c<|i _ t;exact Kv n g (λx m=>nn<|(uW<|l.f7▸cq.mp p).symm.trans m) λR=>⟨N,q⟩;induction b using eT with
 |false=>exact wpAny_pyIter_listiter n q
 |true=>exact wpAny_pyIter_tupleiter n q
theorem aJ2{p q:Int}(m:A.handled=aC):mO w A .h9 (CE p q) I (λh i=>IsRangeIter h I (p+(i:Int)) (((q-p).toNat:Int)-(i:Int)) 1) λb b=>True:=by
 have g:(CE p q).length=(q-p).toNat:=(bP _).trans pK;refine⟨λ{i j s C v E Q} n b r b a e=> ?_,λ{i j s C E Q} n b b b a e=>aHD m n ?_ e,λn h=>h _ n,λc b=>c,λn=>⟨_,_,_,n,rfl,rfl,by decide⟩,λn e=>wpAny_pyIter_rangeiter n e⟩
 have k:=(iU.mp a).1;rw[g]at k;refine wpAny_pyNext_range_item n (Int.sub_pos_of_lt<|tK.mpr k) λo l d=>e _ o _ ?_ ?_ d;unfold CE at a
 (replace a:=(jW)▸a;replace a:=(List.getElem?_range k)▸a)
 exact aV a▸RI.mk _;rw[Int.natCast_succ,←Int.add_assoc,←Int.sub_sub];exact l;have h:=cq.mp a;replace h:=g▸h;exact aTY<|Do.mpr h
structure kU(w:aW)(j:Th)(s:aF)(a:aM)(f:List V)(n:Nat)(l:List (V×V))(es:List fB):Prop where
 g:s.heap.get? a=aA (jB es n)
 d:bL s a es (F2 (Rd w j s) l) l
 hs:gE l=aB
 e:l.map (·.1)=f
 z:es.length=f.length
theorem Ka{c:aX}{a:aD}(h:(Sk w).is c a=aB):∃t,a= .str c t:=by
 induction a with
 |str y t=>exact⟨t,by exact aE (jX (show(y==c)=aB from h)) rfl⟩
 |_=>exact aZ h cC
theorem aEU(S:A.handled=aC){u:Th->aF->Prop}(P:∀{j F:Th} {s H:aF},u j s->Kp j s F H->u F H)(g:∀{C:aH} {j:Th} {s:aF},u j s->aJ w C j s->lM B f C->∃l m,kU w j s a f n l m):
  mO w A B f I (λh i=>h.IsKeyIter I a i f.length n) u:=by
 refine⟨λk c M x b q=> ?_,λk c M x b q=> ?_,λn h=>n.at h,P,λn=>n.elim λo K=>K.elim λX E=>E.elim λU T=>⟨o,_,_,X,U,T,by decide⟩,λn q=>aTZ n q⟩
 ·obtain⟨l,m,D⟩:=g c M x
  (replace b:=(D.e).symm▸b;replace b:=(jW)▸b)
  obtain⟨p,Q,e⟩:=om b;obtain⟨en,y,r⟩:=(CR D.d.hs D.hs).at Q;have z:(m.map vE).length=f.length:=(bP _).trans D.z;rw[←z]at k q;refine wpAny_pyNext_dict_item k (Ia D.g D.d D.hs) (jW.trans<|aN (hV vE) y) λv Y R N d=>q v Y _ ?_ N d;obtain⟨t,Z⟩:=Ka R
  (refine eJ e ?_;refine aE r.k ?_;refine aE Z ?_)
  exact RS.mk t r.l
 ·obtain⟨l,m,D⟩:=g c M x;exact SG S (D.z▸k) D.g (D.z▸cq.mp b) q
theorem Ax{l:List (V×V)}{a:List fB}(r:F2 (Rd w j s) l a):a.length=(l.map (·.1)).length:=r.f7.trans (bP _).symm
end
section
variable{w:aW}{F L:aH}{j H:Th}{s J f:aF}{A:bN}{E:aD->aF->Prop}{x y z:aD}{v u:V}{a:aM}{i n:Nat}{P:List aD}{C:Sr}{B:List V}{t:aT}{l:List aM}
inductive mB (w:aW) (A:bN) (t:aT) (j:Th) (s:aF) (C:Sr) (B:List V):aD->aF->Prop
 |mk {I:aM} {l:List aM} {N:Nat->Th->aF->Prop} {s₂:aF} (K:iY w A t C B I l N) (n:N 0 (j.j5 l) s₂) (g:aU s s₂) (lo:∀a∈l,s.heap.objs.size<=a) (hi:∀a∈l,a<s₂.heap.objs.size):mB w A t j s C B (.ref I) s₂
theorem mB.p9{h:dW->Nat->Prop}{i:Th->aF->Prop}{o:dE}(g:aU s f)(K:mO w A C B f.heap.objs.size h i)(k:h (f.heap.push o) 0)(c:∀{l:List aM},Kp j s (j.j5 l) (DN f o f.toks)->i (j.j5 l) (DN f o f.toks)):mB w A t j s C B (.ref f.heap.objs.size) (DN f o f.toks):=
 have e:=g.j3<|aU.u4 f o f.toks;have d:∀a∈[f.heap.objs.size],s.heap.objs.size<=a:=λa b=>dU.mp b▸g.i9
 .mk K.P8 ⟨k,c<|wI e d⟩ e d λa b=>by rw[dU.mp b,lH];exact jY _
theorem oi{p:Nat}{l:List V}(h:F[p]? =aA (.a7 l)):eK (.a9 p) F=aA (.a7 l):=by dsimp only[eK];rw[h]
theorem OV{b:Bool}(e:A.handled=aC)(r:Rv w j s v (.ref a))(d:∀F,lM C B F->eK v F=aA (uE b B))(h:iM b s.heap a P){Q:aD->aF->Prop}(q:∀z c,mB w A t j s C B z c->Q z c):aL (Md w) A (rE<|.ref a) Q E s:=by
 have K:=wb (w:=w) (a:=a) (I:=s.heap.objs.size) e d;induction b using eT with
 |false=>exact aQQ h<|q _ _<|.p9 (.n7 s) K ⟨_,oU ..,rfl,rfl⟩ λk=>k.rv r
 |true=>exact cu h<|q _ _<|.p9 (.n7 s) K ⟨_,oU ..,rfl,rfl⟩ λk=>k.rv r
theorem ZB(k:A.handled=aC){l:List (V×V)}{e:List fB}{d:Th->aF->Prop}(D:kU w j s a B n l e)(c:∀{h:List aM} {J},Kp j s (j.j5 h) J->d (j.j5 h) J)(i:∀{j H:Th} {s J:aF},d j s->Kp j s H J->d H J)
  (g:∀{F:aH} {j:Th} {s:aF},d j s->aJ w F j s->lM C B F->∃l e,kU w j s a B n l e) {Q:aD->aF->Prop} (q:∀z b,mB w A t j s C B z b->Q z b):aL (Md w) A (rE<|.ref a) Q E s:=
 wpAny_pyIter_dict (wH D.d.h3) (Ia D.g D.d D.hs) (q _ _ (.p9 (.n7 s) (aEU (a:=a) (n:=n) k i g) ⟨_,oU ..,rfl,by rw[←D.z,bP];rfl⟩ c))
structure DV(w:aW)(l:List (V×V))(a:aM)(n:Nat)(j:Th)(s:aF):Prop where
 r:RD j.N s (F2 (Rd w j s) l) l (.ref a)
 g:∃es,s.heap.get? a=aA (jB es n)
 n:¬j.N a
theorem DV.kp{l:List (V×V)}(c:DV w l a n j s)(k:Kp j s H J):DV w l a n H J:=c.g.elim λb g=>⟨uK▸k.rv (v:= .b7 l) (uK.symm▸c.r),⟨b,(k.k _ _ g c.n).1⟩,(k.k _ _ g c.n).2⟩
theorem DV.at{l:List (V×V)}(c:DV w l a n j s)(d:gE l=aB):∃m b,kU w j s a (l.map (·.1)) n m b:=by
 obtain⟨b,g⟩:=c.g;cases c.r with|mk D _=>
 obtain⟨m,e⟩:=D.g;cases g.symm.trans e;exact⟨l,_,g,D,d,rfl,Ax D.hs⟩
theorem Py(N:A.handled=aC)(S:aJ w F j s)(r:Rv w j s v x){o:Sr×List V}(h:tA v F=aA o){Q:aD->aF->Prop}(q:∀z i,mB w A t j s o.1 o.2 z i->lM o.1 o.2 F->Q z i):aL (Md w) A (rE x) Q E s:=by
 induction v using V.casesOn with
 |a8 l=>rw[←aV h]at q;have u:=qT▸r;induction u with|mk U _ _ _=>exact OV (b:=aB) N r (λK K=>rfl) U λz i a=>q z i a trivial
 |a7 l=>rw[←aV h]at q;have u:=vZ▸r;induction u with|mk U _ _ _=>exact OV (b:=aI) N r (λK K=>rfl) U.s9 λz i a=>q z i a trivial
 |b7 l=>
  obtain⟨y,h⟩:=rK h;rw[←aV h]at q;have u:=uK▸r;induction u with| @mk d es D R=>
  obtain⟨n,g⟩:=D.g;have c:DV w l d n j s:=⟨.mk D R,⟨_,g⟩,R⟩;exact ZB N (d:=DV w l d n) ⟨g,D,y,rfl,Ax D.hs⟩ (λk=>c.kp k) DV.kp (λc K K=>c.at y) λz i a=>q z i a trivial
 |a9 p=>
  dsimp only[tA]at h;cases I:F[p]? with
  |none=>rw[I]at h;exact nn h
  |some o'=>
   rw[I]at h;induction o' using O.casesOn with
   |a7 l=>rw[←aV h]at q;have u:=DH S I r;induction u with|mk hq e g hl y=>exact OV (b:=aI) (C:= .a7 p) N r (λF h=>oi h) ⟨_,g,rfl,_,rfl⟩ λz i a=>q z i a I
   |b7 l=>obtain⟨y,h⟩:=rK h;rw[←aV h]at q;obtain⟨q',es,n,_,e,_,g,D,R⟩:=Iv S I r;rw[e]at r⊢;refine ZB N (d:=λj s=>Rv w j s (.a9 p)<|.ref q'.1) ⟨g,D,y,rfl,Ax D.hs⟩ (λk=>k.rv r) (λc k=>k.rv c) (λc S h=> ?_) λz i a=>q z i a ⟨l,I,y,rfl⟩;obtain⟨m,X,M,e'⟩:=h;obtain⟨_,es',n',_,e,_,Z,T,Y⟩:=Iv S X c;rw[←Ql e]at Z T;rw[Y M,Ax T.hs,e',←Ax D.hs,←R y]at Z;exact⟨m,es',Z,T,M,e',e'▸Ax T.hs⟩
   |g9 c fs=>exact nn h
 |_=>exact nn h
theorem aJQ{p q:Int}(h:Ej p q=aB):aWW p q 1=aB/\aWX p q 1=((q-p).toNat:Int):=by
 obtain⟨a,h⟩:=bI h;obtain⟨a,c⟩:=bI a;obtain⟨a,b⟩:=bI a;have a:=bQ a;have c:=bQ c;have b:=bQ b;have d:=bQ h;refine⟨small_one (Qs (by decide) a) (Qo b (by decide)) (Qs (by decide) c) (Qo d (by decide)),(rangeSize_one p q).trans ?_⟩
 by_cases h:p<q
 exact(bO h).trans (aS9<|Int.sub_nonneg_of_le<|bb h).symm;exact(bH h).trans<|aN cw (Int.toNat_of_nonpos<|aTY<|EK.mp h).symm
theorem Sz{p q:Int}{r:aM}{d c b:Tok}(i:A.handled=aC)(g:aU s f)(h:Ej p q=aB)(e:IsRange f.heap r p q 1 d c b){Q:aD->aF->Prop}(k:∀z a,mB w A t j s .h9 (CE p q) z a->Q z a):aL (Md w) A (rE<|.ref r) Q E f:=by obtain⟨m,l⟩:=aJQ h;refine wpAny_pyIter_range e m<|k _ _<|.p9 g (aJ2 i) ?_ λn=>trivial;rw[l];exact(oU ..).trans (by rw[Int.natCast_zero,Int.add_zero,Int.sub_zero])
end
section
variable{w:aW}{e I:aH}{r Z:Th}{s P X:aF}{A:bN}{E:aD->aF->Prop}{x y:aD}{v u:V}{i j n:Nat}{xs U:List aD}{g:Sr}{Y:List V}{t:aT}{l:List aM}{b:Bool}{z H d B C K J:aM}{h F:dW}{f N p q S L:aD}
structure ZM(b:Bool)(z H d B C K J:aM)(s:aF)(h:dW)(f p q:aD)(i j:Nat):Prop where
 mz:IsZip h z H d f
 mt:EP h d p q
 ma:kC b h B K i
 mc:kC b h C J j
 kp:∀c o,s.heap.get? c=aA o->c≠z->c≠d->c≠B->c≠C->h.get? c=aA o
 sz:s.heap.objs.size<=h.objs.size
theorem kC.o9{a c:aM}(x:kC b h c a i)(l:EN n h F)(f:c≠n):kC b F c a i:=x.elim λo k=>k.elim λm j=>⟨o,l _ _ f m,j⟩
theorem iM.o9{a:aM}(x:iM b h a xs)(c:∀o,h.get? a=aA o->F.get? a=aA o):iM b F a xs:=x.elim λo i=>i.elim λj f=>⟨o,c _ j,f⟩
variable(D:QB z H d B C K J)
include D
theorem ZM.uz(m:ZM b z H d B C K J s h f p q i j)(v:IsZip F z H d N)(k:lT z h F):ZM b z H d B C K J s F N p q i j:=
 ⟨v,k.extBut _ _ D.TOz m.mt,kC.o9 m.ma k.extBut D.i1z,kC.o9 m.mc k.extBut D.i2z,λc o a l u t n=>k.extBut _ _ l<|m.kp c o a l u t n,aR m.sz<|bW k.1.symm⟩
theorem ZM.ut(m:ZM b z H d B C K J s h f p q i j)(v:EP F d S L)(k:lT d h F):ZM b z H d B C K J s F f S L i j:=
 ⟨k.extBut _ _ D.TOz.symm m.mz,v,kC.o9 m.ma k.extBut D.TOi1.symm,kC.o9 m.mc k.extBut D.TOi2.symm,λc o a u l t n=>k.extBut _ _ l<|m.kp c o a u l t n,aR m.sz<|bW k.1.symm⟩
theorem ZM.ua(m:ZM b z H d B C K J s h f p q i j)(w:kC b F B K n)(k:lT B h F):ZM b z H d B C K J s F f p q n j:=
 ⟨k.extBut _ _ D.i1z.symm m.mz,k.extBut _ _ D.TOi1 m.mt,w,kC.o9 m.mc k.extBut D.i12.symm,λc o a v u l t=>k.extBut _ _ l<|m.kp c o a v u l t,aR m.sz<|bW k.1.symm⟩
theorem ZM.uc(m:ZM b z H d B C K J s h f p q i j)(w:kC b F C J n)(k:lT C h F):ZM b z H d B C K J s F f p q i n:=
 ⟨k.extBut _ _ D.i2z.symm m.mz,k.extBut _ _ D.TOi2 m.mt,kC.o9 m.ma k.extBut D.i12,w,λc o a v u t l=>k.extBut _ _ l<|m.kp c o a v u t l,aR m.sz<|bW k.1.symm⟩
omit D
noncomputable abbrev ZJ(z d B C:aM)(s:aF)(E:aD->aF->Prop):Prop:=∀F a,(∀c o,s.heap.get? c=aA o->c≠z->c≠d->c≠B->c≠C->F.get? c=aA o)->s.heap.objs.size<=F.objs.size->bw {s with heap:=F} (.ref a) "StopIteration"->E (.ref a) {s with heap:=F}
theorem SF{l:aM}(m:ZM b z H d B C K J s h f p q i j)(hI:l≠z)(hi:l=B\/l=C)(qE:ZJ z d B C s E):KC l {s with heap:=h} λa P=>aL (Md w) A (setField (.ref z) 0 .none) (λq9 M=>E a M) E P:=λu a hs hz he=>by
 have t:IsZip u z H d f:=hs _ _ hI.symm m.mz;obtain⟨oe,v,y⟩:=he;have Q:a≠z:=λx=>by rw[x]at v;rw[←aV (t.symm.trans v)]at y;exact aZ (Value.type.inj y) (by decide)
 exact cx (s:={s with heap:=u}) t (by simp) λD q9 n=>qE D a (λc o k n1 n2 T R=>n.extBut _ _ n1<|hs _ _ (λa=>hi.elim (λi=>T<|a.trans i) λi=>R<|a.trans i)<|m.kp c o k n1 n2 T R) (aR m.sz<|aR hz<|bW n.1.symm) ⟨oe,n.extBut _ _ Q v,y⟩
theorem se(D:QB z H d B C K J)(m:ZM b z H d B C K J s s.heap .none p q i j)(hTI:EP s.heap H (.ref B) (.ref C))(hx:iM b s.heap K xs)(hy:iM b s.heap J U){Q:aD->aF->Prop}
  (hQ:∀x y,xs[i]? =aA x->U[j]? =aA y->∀(F:dW) (T:Nat),ZM b z H d B C K J s F (lV T) x y (i+1) (j+1)->EP F T x y->s.heap.objs.size<=T->Q (.ref T) {s with heap:=F}) (hE:xs[i]? =aC\/U[j]? =aC->A.handled=aC/\ZJ z d B C s E):
  aL (Md w) A (Builtin.«zip.__next__» ⟨[.ref z],[]⟩) (λfin P=>∃v,fin= .done (.ret v)/\Q v P) E s:=by
 show aL _ _ (Hs (.ref z) 2>>=_) _ _ _;refine aK<|yX m.mz rfl (x:= .bool aI) rfl ?_;show aL _ _ (Hs (.ref z) 3>>=_) _ _ _;refine aK<|yX m.mz rfl (x:= .ref H) rfl ?_;refine aK<|zC hTI rfl ?_;show aL _ _ (aT0 (.ref z)>>=_) _ _ _;refine aK ?_;unfold aT0;refine aK<|yX m.mz rfl (x:= .none) rfl<|bA ?_;show aL _ _ (yU _>>=_) _ _ _;refine aK<|BN ?_;refine aK<|yX m.mz rfl (x:= .ref d) rfl ?_;refine aK (cx m.mz (by simp) λh₁ hz₁ l=> ?_)
 have m1:=m.uz D (N:= .ellipsis) hz₁ l;refine aK ?_;simp only[List.zipIdx_cons,List.zipIdx_nil,Lr,aQR];refine aK<|aK<|cy ?_;show aL _ _ (ck (.ref B)>>=_) _ _ _;refine aK (Va (s:={s with heap:=h₁}) m1.ma (iM.o9 hx λo=>l.extBut _ o D.l1z) ⟨λx hx' h₂ n2 M=>bA ?_,λa=>⟨(hE<|.inl a).1,SF m1 D.i1z (.inl rfl) (hE<|.inl a).2⟩⟩)
 have m2:=m1.ua D n2 M;refine aK<|zC m2.mt rfl ?_;refine aK (aT1 (s:={s with heap:=h₂}) m2.mt λh₃ hT₃ u=> ?_)
 have m3:=m2.ut D (S:=x) (L:=q) hT₃ u;refine aK<|wpAny_letGo<|bA ?_;refine aK<|aK<|cy ?_;show aL _ _ (ck (.ref C)>>=_) _ _ _;refine aK (Va (s:={s with heap:=h₃}) m3.mc (iM.o9 hy λo h=>u.extBut _ o D.l2TO<|M.extBut _ o D.l2i1<|l.extBut _ o D.l2z h) ⟨λy hy' h₄ n4 hs₄=>bA ?_,λa=>⟨(hE<|.inr a).1,SF m3 D.i2z (.inr rfl) (hE<|.inr a).2⟩⟩)
 have m4:=m3.uc D n4 hs₄;refine aK<|zC m4.mt rfl ?_;refine aK (aT1 (s:={s with heap:=h₄}) m4.mt λk hT₅ hs₅=> ?_)
 have R:=m4.ut D (S:=x) (L:=y) hT₅ hs₅;refine aK<|wpAny_letGo<|bA<|bA ?_;refine aK<|zC R.mt rfl ?_;refine aK<|wpAny_newTuple ?_;show aL _ _ (aT2 (.ref z) (.ref k.objs.size)>>=_) _ _ _;refine aK ?_;unfold aT2;have m6:ZM b z H d B C K J s (k.push {cls:= .type "tuple",data:= .seq #[x,y]}) .ellipsis x y (i+1) (j+1):=
  ⟨fC _ R.mz,fC _ R.mt,R.ma.elim λo h3_=>h3_.elim λh1 f=>⟨o,fC _ h1,f⟩,R.mc.elim λo h4_=>h4_.elim λh1 f=>⟨o,fC _ h1,f⟩,λc o a n1 n2 n3 n4=>fC _<|R.kp c o a n1 n2 n3 n4,DK R.sz⟩
 refine aK (cx (s:={s with heap:=k.push {cls:= .type "tuple",data:= .seq #[x,y]}}) m6.mz (by simp) λh₇ hz₇ t=> ?_)
 have m7:=m6.uz D (N:=lV k.objs.size) hz₇ t;refine cx (s:={s with heap:=h₇}) m7.mz (by simp) λh₈ hz₈ n=> ?_
 have ne:k.objs.size≠z:=jQ<|iF R.mz;exact bA ⟨_,rfl,hQ x y hx' hy' h₈ k.objs.size (m7.uz D hz₈ n) (n.extBut _ _ ne<|t.extBut _ _ ne<|kZ _ rfl) R.sz⟩
end
section
variable{w:aW}{d r:aH}{U P:Th}{s Y X:aF}{A:bN}{E:aD->aF->Prop}{x y:aD}{v u:V}{i j n:Nat}{xs S:List aD}{e:Sr}{N:List V}{t:aT}{l:List aM}{b:Bool}{z I J C H K L a:aM}{h B:dW}{f g p q p' Z:aD}
noncomputable abbrev JN(b:Bool)(a:aM):dE:={cls:= .type (bif b then "tuple_iterator"else "list_iterator"),data:= .fields #[.ref a,.int 0 0]}
theorem SD{f:BK}(c:iM b s.heap a xs){Q:aD->aF->Prop}(q:Q (.ref s.heap.objs.size) {s with heap:=s.heap.push<|JN b a}):aL (model f w) A (rE<|.ref a) Q E s:=by
 induction b using eT with
 |false=>exact aQQ c q
 |true=>exact cu c q
structure kQ(b:Bool)(s:aF)(B:dW)(z I J C H K L:aM):Prop where
 D:QB z I J C H K L
 m:ZM b z I J C H K L s B .none .none .none 0 0
 T:EP B I (.ref C) (.ref H)
 lo:∀a∈[z,I,J,C,H],s.heap.objs.size<=a
 hi:∀a∈[z,I,J,C,H],a<B.objs.size
 k:∀c o,s.heap.get? c=aA o->B.get? c=aA o
theorem aKB{h:dW}(T:K<h.objs.size)(R:L<h.objs.size){i j m n p:dE}(A:i=JN b K)(z:j=JN b L)(Q:m={cls:= .type "tuple",data:= .seq #[.ref h.objs.size,.ref (h.push i).objs.size]})(M:n={cls:= .type "tuple",data:= .seq #[.none,.none]})
  (F:p={cls:= .type "zip",data:= .fields #[.none,.bool aI,.bool aI,.ref ((h.push i).push j).objs.size,.ref (((h.push i).push j).push m).objs.size]}) (y:s.heap=h):
  kQ b s (((((h.push i).push j).push m).push n).push p) ((((h.push i).push j).push m).push n).objs.size ((h.push i).push j).objs.size (((h.push i).push j).push m).objs.size h.objs.size (h.push i).objs.size K L:=by
 have l:∀{h:dW} (o:dE) {c x},h.get? c=aA x->(h.push o).get? c=aA x:=λo q q=>fC o;have w:(h.push i).objs.size=h.objs.size+1:=lH ..;have v:((h.push i).push j).objs.size=h.objs.size+2:=by rw[lH,w]
 have u:(((h.push i).push j).push m).objs.size=h.objs.size+3:=by rw[lH,v]
 have t:((((h.push i).push j).push m).push n).objs.size=h.objs.size+4:=by rw[lH,u]
 have D:(((((h.push i).push j).push m).push n).push p).objs.size=h.objs.size+5:=by rw[lH,t]
 have E:∀c o,s.heap.get? c=aA o->(((((h.push i).push j).push m).push n).push p).get? c=aA o:=λc o f=>l _<|l _<|l _<|l _<|l _<|y▸f;have g1:(((((h.push i).push j).push m).push n).push p).get? h.objs.size=aA i:=l _<|l _<|l _<|l _<|kZ _<|A▸rfl;have g2:(((((h.push i).push j).push m).push n).push p).get? (h.push i).objs.size=aA j:=l _<|l _<|l _<|kZ _<|z▸rfl;refine⟨?_,⟨(kZ _<|F▸rfl).trans<|aN aA F,(l _<|kZ _<|M▸rfl).trans<|aN aA M,⟨i,g1,A▸rfl,A▸rfl⟩,⟨j,g2,z▸rfl,z▸rfl⟩,λc o f q q q q=>E c o f,?_⟩,(l _<|l _<|kZ _<|Q▸rfl).trans<|aN aA Q,?_,?_,E⟩
 ·(refine aE t ?_;refine aE u ?_;refine aE v ?_;refine aE w ?_);exact zipApart_new T R
 ·(refine aE D ?_;refine aE y ?_);exact dI _ 5
 ·(refine aE t ?_;refine aE u ?_;refine aE v ?_;refine aE w ?_;refine aE y ?_)
  exact BV.mpr ⟨dI _ 4,BV.mpr ⟨dI _ 2,BV.mpr ⟨dI _ 3,BV.mpr ⟨bT _,BV.mpr ⟨dI _ 1,nofun⟩⟩⟩⟩⟩
 ·(refine aE D ?_;refine aE t ?_;refine aE u ?_;refine aE v ?_;refine aE w ?_)
  have a:∀{k},k<5->h.objs.size+k<h.objs.size+5:=λx=>rF x _;exact BV.mpr ⟨a (by decide),BV.mpr ⟨a (by decide),BV.mpr ⟨a (by decide),BV.mpr ⟨a (k:=0) (by decide),BV.mpr ⟨a (by decide),nofun⟩⟩⟩⟩⟩
theorem aO7:Meets (Builtin.«zip.__new__» ⟨[.type "zip",.ref K,.ref L],[]⟩) (λq R s=>iM b s.heap K xs/\iM b s.heap L S/\(∀B z I J C H,kQ b s B z I J C H K L->R (.ok (.ret (.ref z))) {s with heap:=B})):=
 .of_wp λt w A R s h=>by obtain⟨j,a,c,p,u⟩:=s;obtain⟨i,f,h⟩:=h;have v:=sub_zip;have l:iM b (aQS ⟨j,a,c,p,u⟩) K xs:=i;have k:iM b (aQS ⟨j.push<|JN b K,a,c,p,u⟩) L S:=iM.o9 f λo=>fC _;have y:K<j.objs.size:=i.elim λo n=>n.elim λa q=>iF a;have x:L<j.objs.size:=f.elim λo m=>m.elim λa q=>iF a;wp_walk using SD l,SD k;exact⟨_,rfl,h _ _ _ _ _ _<|aKB y x rfl rfl rfl rfl rfl rfl⟩
theorem aKK(f:iM b s.heap K xs)(c:iM b s.heap L S){Q:aD->aF->Prop}(q:∀B z I J C H,kQ b s B z I J C H K L->Q (.ref z) {s with heap:=B}):aL (Md w) A (fK (.type "zip") [.ref K,.ref L]) Q E s:=
 callType_new F.called_zip (by decide) (F.typeCall_zip_2 _ _) (F.newCall_zip_2 _ _) (λa=>F.args_object_init_3 a _ _) F.entry_zip_new aO7 ⟨f,c,λB z I J C H n=>⟨⟨_,n.m.mz,rfl⟩,q B z I J C H n⟩⟩
theorem TZ(M:A.handled=aC)(D:QB z I J C H K L)(m:ZM b z I J C H K L s s.heap .none p q i j)(h:EP s.heap I (.ref C) (.ref H))(v:iM b s.heap K xs)(u:iM b s.heap L S){Q:Option aD->aF->Prop}
  (R:∀x y,xs[i]? =aA x->S[j]? =aA y->∀(B:dW) (T:Nat),ZM b z I J C H K L s B (lV T) x y (i+1) (j+1)->EP B T x y->s.heap.objs.size<=T->Q (aA<|.ref T) {s with heap:=B})
  (hE:xs[i]? =aC\/S[j]? =aC->∀B,(∀c o,s.heap.get? c=aA o->c≠z->c≠J->c≠C->c≠H->B.get? c=aA o)->s.heap.objs.size<=B.objs.size->Q aC {s with heap:=B}):aL (Md w) A (jI<|.ref z) Q E s:=by
 have l:s.TypeIs (.ref z) "zip":=⟨_,m.mz,rfl⟩;unfold jI;exact aK (BU (wW (name:=cD "__next__") l aT3 (nN aT3 l F.entry_zip_next
  (se D m h v u (λx y e1 e2 B T n t f=>bA<|R x y e1 e2 B T n t f) λa=>⟨M,λB e' k f t=>aK<|EO (T:= "StopIteration") (b:=aB) t aQO<|bA<|hE a B k f⟩) (F.args_zip_next_1 _))))
theorem aBY{xs S:List V}(h:(Bz xs S)[i]? =aA v):∃a b,xs[i]? =aA a/\S[i]? =aA b/\v= .a8 [a,b]:=by
 induction xs generalizing S i with
 |nil=>exact nn h
 |cons a x c=>induction S using bM with
  |nil=>exact nn h
  |cons b y=>induction i using fO with
   |zero=>exact⟨a,b,rfl,rfl,(aV h).symm⟩
   |succ i=>exact c h
theorem aEL{xs S:List V}(h:(Bz xs S)[i]? =aC):xs[i]? =aC\/S[i]? =aC:=by
 induction xs generalizing S i with
 |nil=>exact .inl rfl
 |cons a x c=>induction S using bM with
  |nil=>exact .inr rfl
  |cons b y=>induction i using fO with
   |zero=>exact nn h.symm
   |succ i=>exact c h
structure ZN(w:aW)(b:Bool)(xs S:List V)(z I J C H K L:aM)(i:Nat)(U:Th)(s:aF):Prop where
 m:∃p q,ZM b z I J C H K L s s.heap .none p q i i
 T:EP s.heap I (.ref C) (.ref H)
 a:Rv w U s (uE b xs) (.ref K)
 c:Rv w U s (uE b S) (.ref L)
theorem ZM.O0(m:ZM b z I J C H K L s h f p q i j)(Y:aF)(a:Y.heap=h):ZM b z I J C H K L Y Y.heap f p q i j:=⟨a▸m.mz,a▸m.mt,a▸m.ma,a▸m.mc,λk k c k k k k=>c,bT _⟩
theorem Tw{B:dW}(k:∀c o,s.heap.get? c=aA o->c≠z->c≠J->c≠C->c≠H->B.get? c=aA o)(n:s.heap.objs.size<=B.objs.size):bJ [z,I,J,C,H] s {s with heap:=B}:=
 ⟨λc o a f=>k c o a (λb=>f<|b▸ .head _) (λb=>f<|b▸ .tail _ (.tail _ (.head _))) (λb=>f<|b▸ .tail _ (.tail _ (.tail _ (.head _)))) λb=>f<|b▸ .tail _ (.tail _ (.tail _ (.tail _ (.head _)))),n,rfl,rfl⟩
theorem Cp{xs:List V}(c:Rv w U s (uE b xs) (.ref a)):∃f,iM b s.heap a f/\f.length<=cF/\Rl w U s xs f:=Nu c.rw
theorem aDD(hh:A.handled=aC)(D:QB z I J C H K L){xs S:List V}{es:List aT}{k:Nat}{pos:cY}:iY w A (.Tuple es k pos) .h9 (Bz xs S) z [z,I,J,C,H] (ZN w b xs S z I J C H K L):=by
 refine⟨λ{i U s d v E E' Q} n hl I0 u hv q=> ?_,λ{i U s d E Q} n hl I0 u hv q=> ?_,λn k h=> ?_,λn q=>n.m.elim λu h3_=>h3_.elim λu m=>aT4 m.mz q⟩;obtain⟨p,Z,m⟩:=n.m;obtain⟨vs,F,_,r1⟩:=Cp n.a;obtain⟨ws,h2,_,r2⟩:=Cp n.c;obtain⟨va,vb,ga,gb,a⟩:=aBY hv;obtain⟨xa,hxa,ra⟩:=r1.at ga;obtain⟨xb,R,rb⟩:=r2.at gb;refine TZ hh D m n.T F h2 (λx y e1 e2 B T m' t f=>⟨_,rfl,wpAny_letOwnedTupleGo_zip (s:={s with heap:=B}) m'.mz λM hz hs=> ?_⟩) λh=>h.elim (λh=>nn<|h.symm.trans hxa) λh=>nn<|h.symm.trans R
 have m2:=m'.uz D hz hs;have c:bJ [z,I,J,C,H] s {s with heap:=M}:=Tw m2.kp m2.sz
 have kp:=c.kp hl;have ne:T≠z:=jQ<|cO (iF m.mz) f;refine q _ _ c ?_ ⟨⟨_,_,m2.O0 _ rfl⟩,m2.kp _ _ n.T D.TIz D.TITO D.TIi1 D.TIi2,kp.rv n.a,kp.rv n.c⟩;rw[a,qT];exact .mk ⟨_,hs.extBut _ _ ne t,rfl,0,rfl⟩ (I0.o8 f).n (bV (rfl:jV 2 cF=aB)) (.mk (kp.rv<|aV (e1.symm.trans hxa)▸ra) (.mk (kp.rv<|aV (e2.symm.trans R)▸rb) rfl));obtain⟨p,Z,m⟩:=n.m;obtain⟨vs,F,_,r1⟩:=Cp n.a;obtain⟨ws,h2,_,r2⟩:=Cp n.c;have no:∀{l:List V} {m:List aD},Rl w U s l m->l[i]? =aC->m[i]? =aC:=λj h=>uW<|j.f7▸cq.mp h;refine TZ hh D m n.T F h2 (λx y e1 e2=>(aEL hv).elim (λh=>nn<|(no r1 h).symm.trans e1) λh=>nn<|(no r2 h).symm.trans e2) λu B k z=>q _<|Tw k z;obtain⟨p,Z,m⟩:=n.m;have f:∀{c:aM} {o:dE},c∈[z,I,J,C,H]->_->_:=λ{c o} hc a=>h c hc o a;exact⟨⟨p,Z,f (.head _) m.mz,f (.tail _ (.tail _ (.head _))) m.mt,m.ma.elim λo h4_=>h4_.elim λF j=>⟨o,f (.tail _ (.tail _ (.tail _ (.head _)))) F,j⟩,m.mc.elim λo h5_=>h5_.elim λF j=>⟨o,f (.tail _ (.tail _ (.tail _ (.tail _ (.head _))))) F,j⟩,λu u f u u u u=>f,bT _⟩,f (.tail _ (.head _)) n.T,k.rv n.a,k.rv n.c⟩
theorem aGX{b:aM->Prop}{c:List aD->Prop}(h:RT b s c x):∃a,x= .ref a:=by induction h with|mk=>exact⟨_,rfl⟩
theorem aPK{b:aM->Prop}{c:List aD->Prop}(h:RL b s c x):∃a,x= .ref a:=by induction h with|mk=>exact⟨_,rfl⟩
theorem Og{xs:List V}(c:Rv w U s (uE b xs) x):∃a,x= .ref a:=by
 induction b using eT with
 |true=>exact aGX c
 |false=>exact aPK c
theorem aMG{u v:V}(h:Oj u v=aB):∃b xs S,u=uE b xs/\v=uE b S:=by
 induction u using V.casesOn with
 |a8 l=>induction v using V.casesOn with
  |a8 m=>exact⟨aB,l,m,rfl,rfl⟩
  |_=>exact aZ h cC
 |a7 l=>induction v using V.casesOn with
  |a7 m=>exact⟨aI,l,m,rfl,rfl⟩
  |_=>exact aZ h cC
 |_=>exact aZ h cC
theorem Um(l:List V):nJ (uE b l)=aA l:=by cases b<;>rfl
theorem aM5(D:A.handled=aC){u v:V}{R:List aT}{k:Nat}{h:cY}(t:Oj u v=aB)(f:Rv w U s u x)(c:Rv w U s v y){o:Sr×List V}(i:((nJ u).bind λl=>(nJ v).map λm=>(.h9,Bz l m))=aA o){Q:aD->aF->Prop}{E':aD->aF->Prop}
  (q:∀z a,mB w A (.Tuple R k h) U s o.1 o.2 z a->o.1= .h9->Q z a):aL (Md w) A (fK (.type "zip") [x,y]) (λz X=>aL (Md w) A (rE z) Q E X) E' s:=by
 obtain⟨b,xs,S,p,j⟩:=aMG t;rw[p]at f;rw[j]at c;obtain⟨K,e3⟩:=Og f;obtain⟨L,T⟩:=Og c;rw[e3]at f⊢;rw[T]at c⊢;rw[p,j,Um,Um]at i;replace q:=(aV i).symm▸q;obtain⟨vs,M,_,r1⟩:=Cp f;obtain⟨ws,F,_,r2⟩:=Cp c;refine aKK M F λB z I J C H n=>aT4 n.m.mz<|q _ _ (.mk (aDD D n.D) ⟨⟨_,_,n.m.O0 _ rfl⟩,n.T,?_,?_⟩ ⟨n.k,n.m.sz,rfl,rfl⟩ n.lo n.hi) rfl
 ·exact(wI (y:={s with heap:=B}) ⟨n.k,n.m.sz,rfl,rfl⟩ n.lo).rv f
 ·exact(wI (y:={s with heap:=B}) ⟨n.k,n.m.sz,rfl,rfl⟩ n.lo).rv c
end
section
variable{C:cR}{w:aW}{Y z:aH}{j X:Th}{s J D B:aF}{A:bN}{E:aD->aF->Prop}{x y:aD}{v u:V}{i n:Nat}{xs Z:List aD}{g:Sr}{S:List V}{t:aT}{l:List aM}{b:Bool}{I a:aM}{U:cP}{L:Lc}{p:List aM}{f:dH}{k:Co}{K:PF}{H o:List V}{c:aT->Co->Co}{d:Nat}
theorem bJ.j3(c:bJ l s D)(d:bJ l D B):bJ l s B:=⟨λb a h n=>d.i8 b a (c.i8 b a h n) n,aR c.i9 d.i9,d.os.trans c.os,d.p8.trans c.p8⟩
theorem bJ.n7(l:List aM)(s:aF):bJ l s s:=⟨λa a h a=>h,bT _,rfl,rfl⟩
noncomputable abbrev FC:aT:= .Name yQ qX
theorem iY.e9{N:Nat->Th->aF->Prop}(T:iY w A FC g S I l N){Q:Option aD->aF->Prop}(u:N i j s)(x:∀a∈l,a∈j.F)(C:aJ w Y j s)(t:lM g S Y)(n:S[i]? =aA v)(q:∀y J,bJ l s J->Rv w j J v y->N (i+1) j J->Q (aA y) J):aL (Md w) A (jI<|.ref I) Q E s:=
 λc b k=>Sem.wp_mono (Md w) c _ (λr m J ⟨y,e,h⟩=>e▸(h c m k:Q (aA y) J)) (λd d d h=>h) _ _<|T.G0 (E':=E) (Q:=λy=>Q<|aA y) u x C t n q c b k
theorem aF6{N:Nat->Th->aF->Prop}(T:iY w A FC g S I l N)(r:∀a∈l,a∈j.F)(C:lM g S Y){Q:List aD->aF->Prop}(v:aJ w Y j s)(h:N i j s)(t:i+n=S.length)
  (q:∀Z J,bJ l s J->Rl w j J (S.drop i) Z->N (i+n) j J->Q Z J):aL (Md w) A (draw (.ref I) n) Q E s:=by
 induction n generalizing i s Q with
 |zero=>exact bA (q [] s (.n7 _ _) (by refine aE (List.drop_of_length_le (i:=i)<|bW t.symm) ?_;exact rfl) h)
 |succ n x=>have u:i<S.length:=t▸QC (gM n);show aL _ _ (jI (.ref I)>>=_) Q E s;exact aK (T.e9 h r v C (iA u) λy D d k m=>aK (fV (x (d.s7 v r) m (by rw[kX,kY 1 n];exact t) λZ B c e b=>bA (q (y::Z) B (d.j3 c) (by rw[aQT u];exact .mk ((c.kp r).rv k) e) (by rw[kX,kY 1 n]at b;exact b)))))
theorem aD7(i:aJ w Y (j.j5 l) B)(b:aU s D)(e:∀a∈l,s.heap.objs.size<=a)(c:bJ l D B):aJ w Y j B/\Gd [] j s j B/\Kp (j.j5 l) B j B:=
 have d:∀a∈j.F,a∈(j.j5 l).F:=λa h=>kM l h
 ⟨i.D8 d,Gd.I2 (B:=j.j5 l) b e c.gd λa h=> .inl h,Aa d⟩
theorem Ye{l:List V}(h:nJ v=aA l):∃b,v=uE b l:=by
 induction v using V.casesOn with
 |a8 m=>exact⟨aB,aN V.a8<|aV h⟩
 |a7 m=>exact⟨aI,aN V.a7<|aV h⟩
 |_=>exact nn h
theorem aDO(l:List V):tA (uE b l) Y=aA (.h9,l):=by cases b<;>rfl
theorem aFI(d:iM b s.heap a xs):∃T i,s.TypeIs (.ref a) T/\Slot T "__iter__" i:=by
 obtain⟨c,h,e,_⟩:=d;induction b using eT with
 |true=>exact⟨_,_,⟨c,h,e⟩,F.slot_tuple_iter⟩
 |false=>exact⟨_,_,⟨c,h,e⟩,slot_list_iter⟩
theorem ZP(hh:A.handled=aC)(I0:aJ w Y j s)(r:Rv w j s v x)(h:TT n v=aA S){Q:List aD->aF->Prop}(q:∀Z J,S.length=n->aJ w Y j J->Gd [] j s j J->Rl w j J S Z->Q Z J):aL (Md w) A (unpackItems x n aC) Q E s:=by
 obtain⟨m,h1,h⟩:=ob h;obtain⟨F,h⟩:=rK h;rw[aV h]at h1 F;have F:=iQ F;obtain⟨b,e⟩:=Ye h1;replace r:=e▸r;obtain⟨a,e2⟩:=Og r;rw[e2]at r⊢;obtain⟨o,c,_,_⟩:=Cp r;obtain⟨T,id',hT,hS⟩:=aFI c;unfold unpackItems;refine aK ?_;unfold notIterableAtAll;refine aK<|ay hT hS.lookup<|bA ?_;refine aK<|fV<|Py (t:=FC) hh I0 r (aDO S) λd D at_ H=> ?_;induction at_ with| @mk _ l _ _ T N c lo hi=>
 have y:=I0.y8 c lo hi;have I:∀a∈l,a∈(j.j5 l).F:=λa h=>rG j.F h;refine aK<|fV<|aF6 T I (i:=0) (n:=n) H y N ((jH n).trans F.symm) λZ B u C L=> ?_;have zl:Z.length=n:=C.f7.trans F;refine aE (bH<|zl▸rH _) ?_;refine aK<|fV<|T.E7 L I (u.s7 y I) H (uW<|bW<|F.trans (jH n).symm) λK k=>bA ?_;obtain⟨P,R,M⟩:=aD7 (k.s7 (u.s7 y I) I) c lo<|u.j3 k;exact q Z K F P R<|M.rl<|(k.kp I).rl C
inductive Na (w:aW) (p:List aM) (U:cP) (f:dH) (j:Th) (s:aF) (P:Lc->aH->Prop) (J:aF):Prop
 |mk {L':Lc} {z:aH} {X:Th} (I:aJ w z X J) (G:Gd p j s X J) (R:aO w p X J U L' f) (q:P L' z)
theorem Na.tr{P:Lc->aH->Prop}(G:Gd p j s X D)(n:Na w p U f X D P J):Na w p U f j s P J:=by induction n with|mk I a R q=>exact .mk I (G.j3 a) R q
theorem FM{m:eC Unit}{P:Lc->aH->Prop}{Q:Unit->aF->Prop}(h:aL (Md w) A m (λa=>Na w p U f j s P) E s)(k:∀J b z X,aJ w z X J->Gd p j s X J->aO w p X J U b f->P b z->Q () J):aL (Md w) A m Q E s:=
 dP h (λa J n=>by induction n with|mk I G R q=>exact k J _ _ _ I G R q) λa a e=>e
theorem aEF{c:List aT}(h:c.all oP=aB):(Lj c f).findIdx? (·.1)=aC/\(Lj c f).length=c.length:=by
 induction c with
 |nil=>exact⟨rfl,rfl⟩
 |cons t c d=>
  obtain⟨i,e⟩:=bI h;obtain⟨a,b⟩:=d e
  (refine aE ((yF i).a) ?_;refine aE (KQ) ?_;refine aE a ?_;refine aE AC ?_;refine aE b ?_)
  exact⟨rfl,rfl⟩
noncomputable abbrev Ma(C:cR)(w:aW)(A:bN)(U:cP)(c:aT->Co->Co):Prop:=∀{p:List aM} {f:dH} {t:aT} {k:Co} {K:PF} {v:V} {x:aD} {H:List V} {L:Lc} {Y:aH} {j:Th} {s:aF} {E:aD->aF->Prop},
 aS C (c t k) K (v::H) L Y->aJ w Y j s->aO w p j s U L f->Rv w j s v x->aL (Md w) A (tL t f x) (λa=>Na w p U f j s<|aS C k K H) E s
theorem aI0(T:Ma C w A U c){b:List aT}{o:List V}{Z:List aD}(Q:b.all oP=aB)(x:o.length=b.length)(h:aS C (vM c b k) K (o++H) L Y)(I:aJ w Y j s)(R:aO w p j s U L f)(r:Rl w j s o Z):
  aL (Md w) A (cz ((Lj b f).map (·.2)) Z) (λm=>Na w p U f j s<|aS C k K H) E s:=by
 induction b generalizing o Z L Y j s with
 |nil=>induction o using bM with
  |nil=>exact bA<|.mk I (.n7 _ _ _) R h
  |cons=>exact aZ x<|Ls _
 |cons t b P=>induction o using bM with
  |nil=>exact aZ x.symm<|Ls _
  |cons v o=>
   obtain⟨h1,h2⟩:=bI Q;refine aE ((yF h1).a) ?_;induction r with| @mk y Z N M=>
   show aL _ _ (do rI Z (tL t f y);cz ((Lj b f).map (·.2)) Z) _ E s
   exact aK (fV<|FM (T h I R N) λD F q u l a i d=>dP (P h2 (nP x) d l i<|(a.kp R.s4).rl M) (λm m n=>n.tr a) λm m e=>e)
theorem xh(hE:eV C w A U c)(h:aS C (XS c t k) K (v::H) L Y)(hu:A.units+60<dO)(T:aJ w Y j s)(R:aO w p j s U L f)(r:Rv w j s v x):aL (Md w) A (tL t f x) (λq9=>Na w p U f j s<|aS C k K H) E s:=by
 refine el h (λq q9 h=> ?_) λh=>h.elim;rw[q.2,assign_Subscript];refine aK<|fV<|Nx.go (hE h T R) λy D ov N Q i d n F=>aK<|fV<|Nx.go (hE F i<|R.gd T d) λa B iv M P e b m u=>aK<|mY<|aK<|fV ?_;induction u with|of hs q=>
 exact aCL e hu (b.k0.rv n) m (b.k0.rv<|d.k0.rv r) hs λs₃ I l=>da<|.mk I ((d.j3 b).j3 l).t9 (((R.gd T d).gd i b).gd e l) q
theorem aNP(I:eV C w A U c)(h:aS C (RV c t k) K (v::H) L Y)(N:A.units+60<dO)(F:aJ w Y j s)(R:aO w p j s U L f)(r:Rv w j s v x):aL (Md w) A (tL t f x) (λM=>Na w p U f j s<|aS C k K H) E s:=by
 refine el h (λq M h=> ?_) λh=>xh I h N F R r;obtain⟨Q,h⟩:=iS h;rw[q.2];show aL _ _ (do let m ←rI [x] (dJ q.1.1 f);EQ q.1.2.2.atName;rI [x,m] (setAttr m q.1.2.1 x);release [x,m] []) _ E s
 refine aK (fV<|Nx.go (I h F R) λy D m n u b a e i=>aK<|mY<|aK<|fV ?_);induction i with|of P q=>
 exact xf b Q e (a.k0.rv r) P λB l d=>da<|.mk l (a.j3 d).t9 ((R.gd F a).gd b d) q
theorem HM(y:Ar d A)(P:eV C w A U c)(n:Nat):Ma C w A U (cA c U n):=by
 induction n with
 |zero=>exactλh=>h.elim
 |succ n F=>
  intro p f t k K v x H L Y j s E h u R r;refine el h (λq l h=> ?_) λh=>el h (λq l h=> ?_) λh=>aNP P h y.y9 u R r;rw[q.2];refine el h (λkd N h=> ?_) λh=>h.elim;obtain⟨h2,h3⟩:=iS h;obtain⟨T,Q⟩:=bI h2;exact wpAny_assign_Name<|NN R u r Q N T λJ I' G' R'=> .mk I' G' R' h3;rw[q.2];induction h with|of I h=>
  have a:=xV h;rw[arm_assign_Tuple];refine aK<|mY ?_;unfold unpack;obtain⟨e1,e2⟩:=aEF (f:=f) a.n;rw[e1,e2];exact aK<|fV<|ZP y.v8 u r I λZ D M m b i=>dP (aI0 F a.n M a.r m (R.gd u b) i) (λl l n=>n.tr b.t9) λl l e=>e
end
section
variable{C:cR}{w:aW}{U X:aH}{j F:Th}{s p J H:aF}{A:bN}{E:aD->aF->Prop}{x y:aD}{v u:V}{i n:Nat}{Y:Sr}{P:List V}{t e:aT}{l W:List aM}{b:Bool}{I a:aM}{S:cP}{L:Lc}{B:List aM}{g:dH}{k:Co}{K:PF}{Z z:List V}{c:aT->Co->Co}{d:Nat}
noncomputable def FE(w:aW)(j:Th)(s:aF):Fl->tH->Prop
 | .e9,f=>f= .next
 | .r4,f=>f= .brk
 | .b8 v,f=>∃x,f= .ret x/\Rv w j s v x
theorem FE.kp{a:Fl}{f:tH}(r:FE w j s a f)(k:Kp j s F p):FE w F p a f:=by
 induction a using Fl.casesOn with
 |b8 v=>obtain⟨x,e,h⟩:=r;exact⟨x,e,k.rv h⟩
 |_=>exact r
inductive Nf (w:aW) (W B:List aM) (S:cP) (g:dH) (j:Th) (s:aF) (Kf:PF) (f:tH) (p:aF):Prop
 |mk {fl:Fl} {L':Lc} {X:aH} {F:Th} (I:aJ w X F p) (G:Gd W j s F p) (R:aO w B F p S L' g) (r:FE w F p fl f) (q:Kf fl L' X)
theorem Nf.tr{a:PF}{f:tH}(G:Gd W j s F J)(n:Nf w W B S g F J a f p):Nf w W B S g j s a f p:=by induction n with|mk I b R r q=>exact .mk I (G.j3 b) R r q
noncomputable abbrev Ec(C:cR)(w:aW)(A:bN)(S:cP)(b:Co)(c:List kW):Prop:=∀{B:List aM} {g:dH} {a:PF} {L:Lc} {U:aH} {j:Th} {s:aF} {E:aD->aF->Prop},
 aS C b a [] L U->aJ w U j s->aO w B j s S L g->aL (Md w) A (Lu c g) (Nf w B B S g j s a) E s
theorem Ot{r:List V}(h:P.drop i=v::r):P[i]? =aA v/\P.drop (i+1)=r:=
 ⟨by have:=aN (·[0]?) h;replace this:=(QD)▸this;exact this,by(refine eJ ZQ ?_;refine aE h ?_);rfl⟩
structure kS(l B:List aM)(g:dH):Prop where
 f:∀a∈l,a∉B
 c:∀a∈l,∀nm,g.cells.lookup nm≠aA a
theorem aO.H5(R:aO w B j s S L g)(D:kS l B g)(k:∀a∈l,a∈j.F)(d:bJ l s p):aO w B j p S L g:=
 R.j4 (λa h=>h) (λa o m b i=>d.i8 a o i λh=>b.elim (D.f a h) λc=>c.elim λf e=>D.c a h f e) d.i9 (d.kp k)
noncomputable abbrev Wx(R:Lc->aH->Prop)(K:PF):PF:=λb=>match b with
 | .e9=>R
 | .r4=>λa a=>False
 | .b8 v=>K<|.b8 v
theorem aKC{N:Nat->Th->aF->Prop}{bd:Cu}{d:List kW}{R:Lc->aH->Prop}{T:pJ->aF->Prop}(It:iY w A t Y P I l N)(D:kS l B g)
  (hb:∀{y:V} {Kf:PF} {L:Lc} {U:aH} {j:Th} {s:aF} {x:aD} {E₁ E₂:aD->aF->Prop},bd y Kf L U->aJ w U j s->aO w B j s S L g->Rv w j s y x->aL (Md w) A (tL t g x) (λm H=>aL (Md w) A (Lu d g) (Nf w B B S g j s Kf) E₂ H) E₁ s)
  {r:List V} (hr:P.drop i=r) (h:Jg bd Y P R K r L U) (I0:aJ w U j s) (hl:∀a∈l,a∈j.F) (Re:aO w B j s S L g) (hs:lM Y P U) (hn:N i j s)
  (q:∀f p,Nf w (l++B) B S g j s (Wx R K) f p->T (.ok f) p):lI (Md w) A (.forLoop t (.ref I) d [] g) T s:=by
 induction r generalizing i L U j s with
 |nil=>
  refine ER ?_;show aL _ _ ((db t (.ref I) d [] g).onRaise (λx=>do Lx x g;QE x)) _ _ s
  refine QF ?_;simp only[db];refine aK<|mY<|aK<|cy<|It.E7 hn hl I0 hs (uW<|QG.mp hr) λJ c=> ?_;exact bA<|AG rfl<|codeAny_block<|dc<|q _ _<|.mk (fl:= .e9) (c.s7 I0 hl) (c.gd.j4 λa h=>rG _ h) (Re.H5 D hl c) rfl h
 |cons v r ih=>
  obtain⟨hv,hr'⟩:=Ot hr;refine ER ?_;show aL _ _ ((db t (.ref I) d [] g).onRaise (λx=>do Lx x g;QE x)) _ _ s
  refine QF ?_;simp only[db];refine aK (mY (aK (cy (dP (It.G0 (E':=QH (Md w) A g λe p=>T (.error e) p) hn hl I0 hs hv (Q:=λy H=>
   aL (Md w) A (tL t g y) (λm M=>aL (Md w) A (Lu d g) (λf C=>match f with
    | .next| .cont=>lI (Md w) A (.forLoop t (.ref I) d [] g) T C
    | .brk=>T (.ok .next) C
    | .ret v=>T (.ok (.ret v)) C) (QH (Md w) A g λe p=>T (.error e) p) M) (QH (Md w) A g λe p=>T (.error e) p) H) λy J c r₁ n₁=> ?_) (λrr J h₁=> ?_) λm m h'=>mY h'))))
  ·have I₁:=c.s7 I0 hl;have R₁:=Re.H5 D hl c;refine dP (hb h I₁ R₁ r₁) (λm H h₂=>dP h₂ (λf M n=> ?_) λm m e=>e) λm m e=>e;induction n with| @mk fl L' X F I₂ G₂ R₂ r₂ k=>
   have G:=(c.gd (y:=j)|>.j4 λa h=>rG B h).j3<|G₂.j4 λa h=>kM l h;have k₂:=G₂.kp R₁.s4;obtain⟨st₂,k⟩:=k;induction fl using Fl.casesOn with
   |e9=>refine aE (show f= .next from r₂) ?_;exact ih hr' k I₂ (λa h=>G.fr▸hl a h) R₂ st₂ (It.i8 n₁ k₂ λa h o e=>G₂.i8 a o e (D.f a h) λh'=>I₁.s8 a h'<|hl a h) λf p n=>q f p<|n.tr G
   |r4=>exact k.elim
   |b8 u=>obtain⟨b,e,hz⟩:=r₂;refine aE e ?_;exact q _ _<|.mk (fl:= .b8 u) I₂ G R₂ ⟨b,rfl,hz⟩ k
  obtain⟨y,e,h₁⟩:=h₁;refine aE e ?_;refine aK<|dP h₁ (λm H h₂=> ?_) λm m h'=>h';refine aK<|dP h₂ (λm M h₃=>aK<|dP h₃ (λf C E=> ?_) λm m h'=>h') λm m h'=>h';induction f with
  |next=>exact bA<|AG rfl E
  |cont=>exact bA<|AG rfl E
  |brk=>exact bA E
  |ret v=>exact bA E
end
section
variable{C:cR}{w:aW}{U f:aH}{Y z:Th}{s H j B:aF}{A:bN}{E:aD->aF->Prop}{x y:aD}{v u:V}{i n:Nat}{g:Sr}{o:List V}{t e:aT}{l W:List aM}{b:Bool}{I a:aM}{X:cP}{L:Lc}{P:List aM}{D:dH}{k:Co}{K:PF}{N S:List V}{c:aT->Co->Co}{d:Nat}{Z:aX}{p F:cY}{J r:List aT}
theorem Kl(h:sP X Z=aB):fX Z=aB/\jM (key Z) X=aA .globalImplicit:=by
 obtain⟨d,a⟩:=bI h;refine⟨d,?_⟩;cases b:jM (key Z) X with
 |none=>replace a:=b▸a;exact aZ a cC
 |some c=>replace a:=b▸a;induction c with
  |globalImplicit=>rfl
  |_=>exact aZ a cC
theorem JZ(m:eV C w A X c){n:aD}{Q:Args->aF->Prop}(h:aS C (kD c r k) K N L U)(l:aJ w U Y s)(R:aO w P Y s X L D)
  (q:∀xs j S i d,aJ w i d j->Gd [] Y s d j->Rl w d j S xs->pC r.length (λN=>aS C k K N L) N S i->Q ⟨xs,[]⟩ j):aL (Md w) A (evalArgs n aB (uV F<|sI r D) []) Q E s:=by
 have b:=xV h;have G:=HZ (Q:=λxs H=>Q ⟨xs,[]⟩ H) (PY (u:=F) (E:=E) m b.n b.r l R) q;induction r using bM with
 |nil=>exact evalArgs_nil3<|q [] s [] U Y l (.n7 _ _ _) rfl ⟨rfl,b.r⟩
 |cons e a=>rw[(yF (bI b.n).1).s]at G⊢;exact dg G
theorem zq(a:Nat):(∃i,oS a= .builtin i)\/∃i,oS a= .type i:=by
 dsimp only[oS];generalize XI a=b;induction b using eT with
 |true=>exact .inl ⟨_,rfl⟩
 |false=>exact .inr ⟨_,rfl⟩
theorem JA{b:Nat}(k:sP X Z=aB)(l:rX (key Z) oY=aA (.bi b))(h:J.all oP=aB)(t:aJ w U Y s)(R:aO w P Y s X L D){Q:aD->aF->Prop}
  (c:aL (Md w) A (evalArgs (oS b) aB (uV F<|sI J D) []) (λa j=>aL (Md w) A (fK (oS b) ([]++a.pos) a.kw) Q E j) E s):aL (Md w) A (dJ (.Call (.Name Z p) J [] F) D) Q E s:=by
 obtain⟨n,m⟩:=Kl k;rw[aQU];refine aK<|Fq R t n m l λq e=> ?_;rw[show q=oS b from e];have d:=Gy (j:=D) (a:=F) h;rcases zq b with⟨i,e⟩|⟨i,e⟩
 ·rw[e]at c⊢;exact aT5 d c
 ·rw[e]at c⊢;exact aWY d c
theorem GU(n:eV C w A X c){b:Nat}(l:sP X Z=aB)(m:rX (key Z) oY=aA (.bi b))(h:aS C (kD c J k) K N L U)(i:aJ w U Y s)(R:aO w P Y s X L D){Q:aD->aF->Prop}
  (q:∀xs j S e d,aJ w e d j->Gd [] Y s d j->Rl w d j S xs->pC J.length (λN=>aS C k K N L) N S e->aL (Md w) A (fK (oS b) xs) Q E j):aL (Md w) A (dJ (.Call (.Name Z p) J [] F) D) Q E s:=
 JA l m (xV h).n i R (JZ (F:=F) (E:=E) (n:=oS b) n h i R (Q:=λa j=>aL (Md w) A (fK (oS b) ([]++a.pos) a.kw) Q E j) q)
theorem Nw{S:List V}(h:S.length=1):∃v,S=[v]:=dh.mp h
theorem Pc{S:List V}(h:S.length=2):∃u v,S=[u,v]:=by
 induction S using bM with
 |nil=>exact vU h
 |cons u a=>obtain⟨v,e⟩:=Nw<|nP h;exact⟨u,v,e▸rfl⟩
theorem Ih{i:It->Co}(h:aS C (Bm c X t e i) K N L U):vX e=aI:=
 have b:aS C (JH c e i) K N L U->vX e=aI:=λh=>(mL _).mp (iS h).1;el h (λa d h=>el h (λd d d=>by refine aE a.2 ?_;rfl) b) b
theorem IM(h:vX e=aI)(x:aD):aQV e D x=bB x:=by
 cases e with
 |Set=>exact aZ h iE
 |_=>rfl
theorem Mf(hE:eV C w A X c)(hh:A.handled=aC){kI:It->Co}{l:aH->Sr->List V->List V->Prop}(hk:∀{T N U},aS C (kI T) K N L U->Ju T N U (l U))(h:aS C (Bm c X t e kI) K N L U)(I0:aJ w U Y s)(R:aO w P Y s X L D){Q:aD->aF->Prop}{E':aD->aF->Prop}
  (q:∀i B M j I g o,aJ w I M j->Gd [] Y s M j->mB w A t M j g o i B->lM g o I->l I g o N->Q i B):aL (Md w) A (dJ e D) (λx j=>aL (Md w) A (rE x) Q E j) E' s:=by
 have val:aS C (JH c e kI) K N L U->aL (Md w) A (dJ e D) (λx j=>aL (Md w) A (rE x) Q E j) E' s:=λh=>by
  refine Nx.go (hE (iS h).2 I0 R) λx j v I M I₁ G₁ y p=> ?_;have p:=hk p;induction p with|of hi p=>
  exact Py hh I₁ y hi λi B at_ hst=>q i B M j I _ _ I₁ G₁ at_ hst p
 refine el h (λk q9 h=>el h (λa ho h=> ?_) val) val;obtain⟨hg,h⟩:=iS h;obtain⟨d,h1,h2⟩:=ob ho;refine aE k.2 ?_;induction d with
 |bi b=>
  change(match bZ b 9 with|true=>aA (Uf c t k.1.2.1 kI)|false=>match bZ b 1 with|true=>aA (NY c k.1.2.1 kI)|false=>aC)=_ at h2
  cases h3:bZ b 9 with
  |true=>
   replace h2:=h3▸h2;replace h:=(aV h2).symm▸h;replace h1:=(iQ h3)▸h1;obtain⟨h4,h⟩:=iS h;obtain⟨h4,h5⟩:=bI h4;obtain⟨tq,_⟩:=wR.mp h5;refine GU hE hg h1 h I0 R λxs j S I M I₁ G₁ y e₁=> ?_;obtain⟨u,v,ev⟩:=Pc<|e₁.1.trans<|iQ h4;have p:=hk e₁.2;rw[ev]at y p;induction p with|of hs p=>
   induction p with|of hi p=>
   induction y with| @mk x1 _ r1 y=>
   induction y with| @mk x2 _ r2 y=>
   refine aE (show _=[]from y) ?_;replace q:=tq.2▸q;exact aM5 hh hs r1 r2 hi λi B at_ e0=>q i B M j I _ _ I₁ G₁ at_ (by refine aE e0 ?_;trivial) p
  |false=>
   replace h2:=h3▸h2;cases h4:bZ b 1 with
   |false=>replace h2:=h4▸h2;exact nn h2
   |true=>
    replace h2:=h4▸h2;replace h:=(aV h2).symm▸h;replace h1:=(iQ h4)▸h1;dsimp only[NY]at h;cases h5:bZ k.1.2.1.length 1 with
    |true=>
     replace h:=h5▸h;refine GU hE hg h1 h I0 R λxs j S I M I₁ G₁ y e₁=> ?_;obtain⟨v,ev⟩:=Nw<|e₁.1.trans<|iQ h5;have p:=hk e₁.2;rw[ev]at y p;induction v using V.casesOn with
     |a5 n=>
      induction p with|of hs p=>
      induction y with| @mk x1 _ r1 y=>
      refine aE (show _=[]from y) ?_;induction r1 with|mk tk=>exact call_range_1<|Sz hh (.u4 j _ _) hs (oU ..) λi B at_=>q i B M j I _ _ I₁ G₁ at_ trivial p
     |_=>exact p.elim
    |false=>
     replace h:=h5▸h;obtain⟨h6,h⟩:=iS h;refine GU hE hg h1 h I0 R λxs j S I M I₁ G₁ y e₁=> ?_;obtain⟨u,v,ev⟩:=Pc<|e₁.1.trans<|iQ h6;have p:=hk e₁.2;rw[ev]at y p;induction u using V.casesOn with
     |a5 m=>induction v using V.casesOn with
      |a5 n=>
       induction p with|of hs p=>
       induction y with| @mk x1 _ r1 y=>
       induction y with| @mk x2 _ r2 y=>
       refine aE (show _=[]from y) ?_;induction r1 with|mk t1=>induction r2 with|mk t2=>exact call_range_2<|Sz hh (.u4 j _ _) hs (oU ..) λi B at_=>q i B M j I _ _ I₁ G₁ at_ trivial p
      |_=>exact p.elim
     |_=>exact p.elim
 |_=>exact nn h2
end
section
variable{C:cR}{w:aW}{o J:aH}{H Y:Th}{s N B S:aF}{A:bN}{E:aD->aF->Prop}{x y:aD}{v u:V}{i n:Nat}{F:Sr}{r:List V}{t e:aT}{l W:List aM}{b:Bool}{I a:aM}{X:cP}{L:Lc}{U:List aM}{j:dH}{k:Co}{K:PF}{z vs:List V}{c:aT->Co->Co}{d:Nat}{id:aX}{p g:cY}{f es:List aT}{Z:List kW}{D:Co}
inductive Nt (w:aW) (H:Th) (s:aF) (R:Bool->aH->Prop) (b:Bool) (N:aF):Prop
 |mk {J:aH} {Y:Th} (I:aJ w J Y N) (G:Gd [] H s Y N) (q:R b J)
theorem Nt.tr{R:Bool->aH->Prop}(G:Gd [] H s Y B)(n:Nt w Y B R b N):Nt w H s R b N:=by induction n with|mk I a q=>exact .mk I (G.j3 a) q
theorem wF{m:eC Bool}{a:Bool->aH->Prop}{Q:Bool->aF->Prop}(h:aL (Md w) A m (Nt w H s a) E s)(k:∀b N J Y,aJ w J Y N->Gd [] H s Y N->a b J->Q b N):aL (Md w) A m Q E s:=
 dP h (λx N n=>by induction n with|mk I G q=>exact k x N _ _ I G q) λc c e=>e
noncomputable abbrev tf(a b:aH->Prop):Bool->aH->Prop:=λv=>match v with
 |true=>a
 |false=>b
noncomputable abbrev wA(C:cR)(w:aW)(A:bN)(X:cP)(T:aT->Co->Co->Co):Prop:=∀{U:List aM} {j:dH} {e:aT} {a b:Co} {K:PF} {z:List V} {L:Lc} {o:aH} {H:Th} {s:aF} {E:aD->aF->Prop},
 aS C (T e a b) K z L o->aJ w o H s->aO w U H s X L j->aL (Md w) A (zE e j<|dJ e j) (Nt w H s<|tf (aS C a K z L)<|aS C b K z L) E s
theorem aO.e7(R:aO w U H s X L j){d:List aM}(M:∀a∈d,a∈H.F)(h1:∀a∈U,a∈d)(T:∀l c,j.cells.lookup l=aA c->c∈H.F->c∈d):aO w U ⟨H.ρ,d⟩ s X L j:=by have k:=Aa (s:=s) M;refine⟨R.ok,R.n5,R.x9,R.gl,R.bi,h1,R.y6,?_,λi l h=> ?_,λi l h=> ?_,R.o0,R.A0⟩;obtain⟨m,I,h⟩:=R.ns;exact⟨m,I,λi l v a b=>(h i l v a b).elim λx y=>y.elim λQ P=>⟨x,Q,k.rv P⟩⟩;obtain⟨c,u,n,E,c3⟩:=R.A8 i l h;exact⟨c,u,n,E,λv e=>(c3 v e).elim λx t=>t.elim λC A=>⟨x,C,k.rv A⟩⟩;obtain⟨c,n,E⟩:=R.w9 i l h;exact⟨c,n,λv e=>(E v e).elim λK q=>q.elim λx p=>p.elim λC A=>⟨T l c n.1 K,x,C,k.rv A⟩⟩
theorem aO.j5(R:aO w U H s X L j)(c:aU s N)(e:∀a∈l,s.heap.objs.size<=a):aO w U (H.j5 l) N X L j:=
 R.j4 (λa h=>kM _ h) (λa b d d i=>c.i8 a b i) c.i9 (wI c e)
theorem Wt(i:aJ w o H s)(R:aO w U H s X L j)(b:∀a∈l,s.heap.objs.size<=a):kS l U j:=
 ⟨λa h d=>aZ (i.v5 a<|R.s4 a d)<|eI.mpr<|b a h,λa h c e=>aZ (R.A0 c a e)<|eI.mpr<|b a h⟩
theorem aO.E6(R:aO w U Y N X L j)(b:kS l U j)(e:Y.F=l++H.F)(i:∀a∈U,a∈H.F):aO w U ⟨Y.ρ,H.F⟩ N X L j:=
 R.e7 (λa h=>e▸kM l h) i λd c m k=>(fU.mp<|e▸k).resolve_left λh=>b.c c h d m
theorem aED{R:Lc->aH->Prop}{a:Fl}(h:Wx R K a L o):(match a with| .e9=>R|a=>K a) L o:=by
 induction a using Fl.casesOn with
 |r4=>exact h.elim
 |_=>exact h
theorem aPG(hA:Ar d A)(hE:eV C w A X c)(hB:Ec C w A X D Z)(h:aS C (Bm c X t e λI=> .fr I (cA c X 3 t D) k) K [] L o)(I0:aJ w o H s)(R:aO w U H s X L j):
  aL (Md w) A (exec (.For t e Z [] g) j) (Nf w U U X j H s<|rU (aS C k K) K) E s:=by
 refine wpAny_For (Mf (kI:=λI=> .fr I (cA c X 3 t D) k) hE hA.v8 (l:=λo F xs b=>Da (λy K=>aS C (cA c X 3 t D) K [y]) F xs (aS C k K b) K L o) (λh=>h) h I0 R λv S Q B σ₁ F r I₁ G₁ at_ hs q=> ?_) (IM<|Ih h);have R₁:=R.gd I0 G₁;induction q with|of hw=>
 induction at_ with| @mk u l p S T hn m lo hi=>
 have i:=Wt I₁ R₁ lo;refine aKC T i (λ{y Kf L o H s x E₁ E₂} hb I0 R b=>FM (HM hA hE 3 hb I0 R b) λB L₁ σ₁ Q I₁ G₁ R₁ q₁=>dP (hB q₁ I₁ R₁) (λq9 q9 n=>n.tr G₁) λq9 q9 e=>e) rfl hw (I₁.y8 m lo hi) (λa h=>rG _ h) (R₁.j5 m lo) hs hn λM s₃ n=> ?_;induction n with| @mk fl L' J θ₃ I₃ G₃ R₃ r₃ q₃=>
 have hF:θ₃.F=l++Q.F:=G₃.fr;have sub:∀a∈Q.F,a∈θ₃.F:=λa h=>hF▸kM l h;exact .mk (F:=⟨θ₃.ρ,Q.F⟩) (I₃.D8 sub) (G₁.t9.j3<|G₃.I2 m lo λa h=>fU.mp h) (R₃.E6 i hF R₁.s4) (r₃.kp<|Aa sub) (aED q₃)
theorem ip{T:aT->Co->Co->Co}(hT:wA C w A X T)(hB:Ec C w A X D Z)(h:aS C (.E5 (T t D .r4) k) K [] L o)(I0:aJ w o H s)(R:aO w U H s X L j):
  aL (Md w) A (exec (.While t Z [] g) j) (Nf w U U X j H s<|rU (aS C k K) K) E s:=by
 refine wpAny_While ?_;induction h with|of h=>
 have go:∀(n:Nat) (l:aH) (m:Lc) (i:Th) (B:aF),Gb (λK=>aS C (T t D .r4) K []) (aS C k K []) K n m l->aJ w l i B->aO w U i B X m j->Gd U H s i B->
   lI (Md w) A (.whileLoop t Z [] j) (λa N=>match a with| .ok d=>Nf w U U X j H s (rU (aS C k K) K) d N| .error e=>aQW (Md w) A j E e N) B:=by
  intro n;induction n with
  |zero=>intro l m i B h;exact h.elim
  |succ n ih=>
   intro l m i B h I₁ Q G₁;refine ER ?_;show aL _ A ((whileTurn t Z [] j).onRaise (λx=>do Lx x j;QE x)) _ _ B
   refine QF ?_;simp only[whileTurn];refine aK<|wF (hT h I₁ Q) λb S σ₂ θ₂ I₂ I M=> ?_;have P:=Q.gd I₁ I;induction b using eT with
   |false=>exact aK<|dc<|bA<|.mk (fl:= .e9) I₂ (G₁.j3 I.t9) P rfl M
   |true=>
    refine aK (dP (hB M I₂ P) (λd s₃ n=> ?_) λq9 q9 e=>e);induction n with| @mk fl L' J θ₃ y G₃ u p q=>
    have G:=(G₁.j3 I.t9).j3 G₃;induction fl using Fl.casesOn with
    |e9=>refine aE (show d= .next from p) ?_;exact bA<|AG rfl<|ih _ _ _ _ q y u G
    |r4=>refine aE (show d= .brk from p) ?_;exact bA<|.mk (fl:= .e9) y G u rfl q
    |b8 v=>obtain⟨c,e,hz⟩:=p;refine aE e ?_;exact bA<|.mk (fl:= .b8 v) y G u ⟨c,rfl,hz⟩ q
 exact go 1000 o L H s h I0 R (.n7 _ _ _)
theorem Bc{z:kW}{a:List kW}(h:aL (Md w) A (exec z j) (Nf w U U X j H s<|rU (aS C k K) K) E s)(y:Ec C w A X k a):aL (Md w) A (Lu (z::a) j) (Nf w U U X j H s K) E s:=by
 refine aT6 (dP h (λc B n=> ?_) λq q e=>e);induction n with| @mk u I J t m p l d i=>
 induction u using Fl.casesOn with
 |e9=>refine aE (show c= .next from d) ?_;exact dP (y i m l) (λq q n=>n.tr p) λq q e=>e
 |r4=>refine aE (show c= .brk from d) ?_;exact .mk (fl:= .r4) m p l rfl i
 |b8 v=>obtain⟨b,e,x⟩:=d;refine aE e ?_;exact .mk (fl:= .b8 v) m p l ⟨b,rfl,x⟩ i
theorem px{z:kW}{Q:tH->aF->Prop}(h:aL (Md w) A (exec z j) Q E s):aL (Md w) A (Lu [z] j) Q E s:=by
 refine aT6 (dP h (λa B n=> ?_) λb b e=>e);induction a with
 |next=>exact dc n
 |_=>exact n
end
section
variable{C:cR}{w:aW}{z σ':aH}{U Z:Th}{s f j o:aF}{A:bN}{E:aD->aF->Prop}{x y:aD}{v u:V}{i n:Nat}{src:Sr}{all:List V}{t e S:aT}{l W:List aM}{b:Bool}{I a D:aM}{X:cP}{L L':Lc}{N:List aM}{B:dH}{k:Co}{K:PF}{st acc:List V}{c:aT->Co->Co}{T:aT->Co->Co->Co}{d:Nat}{id:aX}{p Y:cY}{es J:List aT}{P rest:List BJ}{H:wQ}
theorem LW(h:res L L'=L):∀{i v},lg i L=aA v->lg i L'=aA v:=by
 induction L generalizing L' with
 |nil=>intro i v e;cases i<;>exact nn e
 |cons a r c=>induction L' using bM with
  |nil=>exact aZ h.symm<|Hu _ _
  |cons y t=>
   have b:=(BM h).1;intro i v e;induction i using fO with
   |zero=>replace b:=(show a=aA v from e)▸b;exact b
   |succ i=>exact c (BM h).2 e
theorem aO.M0(R:aO w N U s X L' B)(h:∀{i v},lg i L=aA v->lg i L'=aA v):aO w N U s X L B:=
 ⟨R.ok,R.n5,R.x9,R.gl,R.bi,R.s4,R.y6,R.ns.elim λm q=>q.elim λx g=>⟨m,x,λi d v a b=>g i d v a<|h b⟩,λi d a=>(R.A8 i d a).elim λc p=>p.elim λu n=>n.elim λt l=>l.elim λr y=>⟨c,u,t,r,λv e=>y v<|h e⟩,
  λi d a=>(R.w9 i d a).elim λc k=>k.elim λt r=>⟨c,t,λv e=>r v<|h e⟩,R.o0,R.A0⟩
inductive iH (w:aW) (U:Th) (s:aF) (D:aM) (acc:List V):Prop
 |mk {vs:List aD} {n:Nat} (g:s.heap.get? D=aA (Hk vs.toArray n)) (hl:vs.length<=cF) (r:Rl w U s acc vs)
theorem iH.j4(x:iH w U s D acc)(g:∀a,s.heap.get? D=aA a->f.heap.get? D=aA a)(k:Kp U s Z f):iH w Z f D acc:=by induction x with|mk h b r=>exact .mk (g _ h) b (k.rl r)
theorem iH.gd(x:iH w U s D acc)(e:D∈U.F)(c:D∉W)(i:aJ w z U s)(G:Gd W U s Z f)(d:∀a∈W,a∈U.F):iH w Z f D acc:=x.j4 (λb g=>G.i8 D b g c λh=>i.s8 D h e)<|G.kp d
theorem qb(x:iH w U s D acc)(i:D∈U.F)(r:Rv w U s v y)(h:(acc++[v]).length<=cF){Q:aD->aF->Prop}(q:∀f,bJ [D] s f->iH w U f D (acc++[v])->Q .none f):aL (Md w) A (fK (.builtin "list.append") [.ref D,y]) Q E s:=by
 induction x with| @mk p n g m l=>
 refine aTE ⟨n,g⟩ (λC ⟨c,e⟩ d=> ?_) (by refine aE Ht ?_;exact jN m)
 have b:=bJ.u9 (t:=s.toks) d;have k:=b.kp (y:=U) λu=>qN i;have a:=(k.rl l).j7<|.p9 (k.rv r);exact q _ b (.mk (n:=c) (e.trans (by rw[aQA])) (a.f7▸h) a)
theorem aOM(v:wA C w A X T)(h:aS C (Ae T J k) K [] L z)(u:aJ w z U s)(R:aO w N U s X L B):
  aL (Md w) A (jD J aB λc r=>if r=aB then do let q ←zE c B (dJ c B);bB (ET q)else bB (ET r)) (Nt w U s<|tf (aS C k K [] L)<|K (.b8 (.a7 [])) L) E s:=by
 induction J generalizing z U s with
 |nil=>exact bA<|.mk u (.n7 _ _ _) h
 |cons c r t=>
  simp only[Lr,if_true];refine aK<|aK<|wF (v h u R) λb j l m g a d=>bA ?_;induction b using eT with
  |true=>exact dP (t d g<|R.gd u a) (λp p n=>n.tr a) λp p e=>e
  |false=>
   have i:∀(r:List aT) {Q:Bool->aF->Prop},Q aI j->aL (Md w) A (jD r aI λc r=>if r=aB then do let q ←zE c B (dJ c B);bB (ET q)else bB (ET r)) Q E j:=by
    intro r;induction r with
    |nil=>intro Q h;exact bA h
    |cons c r t=>intro Q h;simp only[Lr,Hv,if_false];exact aK<|bA<|t h
   exact i r (.mk g a d)
noncomputable abbrev JO(J:List aT)(B:dH):eC Bool:=jD J aB λc r=>if r=aB then do let a ←zE c B (dJ c B);bB (ET a)else bB (ET r)
noncomputable abbrev kH(S:aT)(P:List BJ)(H:wQ)(Y:cY):aT:= .ListComp S P H Y
theorem aA9{b:aT}{n:Nat}{a acc:aD}(e:P[n]? =aA ⟨t,b,J,0⟩)(d:P[n+1]? =aC):
  Hw (kH S P H Y) n a acc B=(do
   EQ b.pos
   match ←jI a with
   |none=>bB<|.done .next
   |some v=>
    Lp t a v
    tL t B v
    let c ←JO J B
    if c=aB then
     (do
      (do let _ ←fK (.builtin "list.append") [acc,←dJ S B])
      tM (.compLoop (kH S P H Y) n a acc B))
    else tM (.compLoop (kH S P H Y) n a acc B)):=by
 unfold Hw;simp only[e,d];rfl
theorem aIH{d e b:aT}{c:List aT}{n:Nat}{a acc:aD}(i:P[n]? =aA ⟨t,d,J,0⟩)(h:P[n+1]? =aA ⟨e,b,c,0⟩):
  Hw (kH S P H Y) n a acc B=(do
   EQ d.pos
   match ←jI a with
   |none=>bB<|.done .next
   |some v=>
    Lp t a v
    tL t B v
    let g ←JO J B
    if g=aB then
     (do
      let x ←dJ b B
      EQ b.pos
      let x ←aQV b B x
      let _ ←runOwn (.compStart (kH S P H Y) (n+1) (←rI [x] (rE x)) acc B) B
      tM (.compLoop (kH S P H Y) n a acc B))
    else tM (.compLoop (kH S P H Y) n a acc B)):=by
 unfold Hw;simp only[i,h,show((0:Int) !=0)=aI from rfl,Hv,if_false];rfl
theorem RJ{e:aT}{n:Nat}{a acc:aD}{R:pJ->aF->Prop}(i:P[n]? =aA ⟨t,e,J,0⟩)(g:lI (Md w) A (.compLoop (kH S P H Y) n a acc B) R s)
  (h:aL (Md w) A (rE a) (λb f=>lI (Md w) A (.compLoop (kH S P H Y) n b acc B) R f) (QH (Md w) A B λx f=>R (.error x) f) s):
  lI (Md w) A (.compStart (kH S P H Y) n a acc B) R s:=by
 refine ER ?_;show aL _ _ ((compStart (kH S P H Y) n a acc B).onRaise (λx=>do Lx x B;EQ theWindowsPlace)) _ _ s
 refine wpAny_notedAt ?_;unfold compStart;simp only[show clausesOf (kH S P H Y)=P from rfl,i];show aL _ _ (ask>>=_) _ _ s;refine aK<|Qv<|wpAny_ite ?_;split
 ·first
   |exact aK<|bA<|bA<|AG rfl g
   |exact wpAny_pure<|And.intro rfl g
 ·first
   |exact aK (BN (aK (mY (aK (dP h (λb f d=>bA<|AG rfl d) λc c x=>x)))))
   |(refine wpAny_bind (wpAny_rule ?_);show wpAny _ _ (standAt e.pos>>=_) _ _ s;exact wpAny_bind (wpAny_standAt (wpAny_bind (wpAny_mono h (λb f d=>wpAny_pure<|And.intro rfl d) λc c x=>x))))
structure gK(N l:List aM)(B:dH)(U:Th)(D:aM):Prop where
 s:kS (D::l) N B
 F:∀a∈D::l,a∈U.F
 n:D∉l
theorem gK.eq(x:gK N l B U D)(e:Z.F=U.F):gK N l B Z D:=⟨x.s,λa h=>e▸x.F a h,x.n⟩
noncomputable abbrev JD(w:aW)(A:bN)(B:dH)(R:pJ->aF->Prop):Hm->aF->Prop:=λb f=>match b with
 | .done a=>R (.ok a) f
 | .again c=>c.quiet=aB/\lI (Md w) A c R f
noncomputable abbrev AO(w:aW)(A:bN)(B:dH)(R:pJ->aF->Prop):aD->aF->Prop:=QH (Md w) A B λe f=>R (.error e) f
noncomputable def OO(C:cR)(w:aW)(A:bN)(X:cP)(N:List aM)(B:dH)(D:aM)(d:Co)(e:eC Hm)(c:AB):Prop:=
 ∀{z σ':aH} {L L':Lc} {l acc:List V} {U:Th} {s:aF} {R:pJ->aF->Prop},aS C d (cK L z l) [] L' σ'->aJ w σ' U s->aO w N U s X L' B->iH w U s D acc->gK N [] B U D->(acc++l).length<=cF->
  (∀b a,aJ w z a b->aO w N a b X L B->iH w a b D (acc++l)->Gd (D::N) U s a b->lI (Md w) A c R b)->aL (Md w) A e (JD w A B R) (AO w A B R) s
theorem Zj{it:aT}{m:Nat}{l:List aM}{IN:eC Hm}{bk:Co}{F:Nat->Th->aF->Prop}(hA:Ar d A)(hE:eV C w A X c)(hT:wA C w A X T)(It:iY w A t src all I l F)
  (hcomp:Hw (kH S P H Y) m (.ref I) (.ref D) B=(do
   EQ it.pos
   match ←jI (.ref I)with
   |none=>bB<|.done .next
   |some v=>
    Lp t (.ref I) v
    tL t B v
    let ok ←JO J B
    if ok=aB then IN else tM (.compLoop (kH S P H Y) m (.ref I) (.ref D) B)))
  (hin:OO C w A X N B D bk IN (.compLoop (kH S P H Y) m (.ref I) (.ref D) B)) {r:List V} {ls:List (List V)} {R:pJ->aF->Prop} (hr:all.drop i=r) (h:FG (λy K=>aS C (cA c X 3 t<|Ae T J bk) K [y]) L z r ls) (hlen:(acc++ls.flatten).length<=cF)
  (I0:aJ w z U s) (Re:aO w N U s X L B) (k:gK N l B U D) (hs:lM src all z) (hn:F i U s) (hacc:iH w U s D acc)
  (q:∀f Z,aJ w z Z f->Gd (D::(l++N)) U s Z f->aO w N Z f X L B->iH w Z f D (acc++ls.flatten)->R (.ok .next) f):
  lI (Md w) A (.compLoop (kH S P H Y) m (.ref I) (.ref D) B) R s:=by
 have Dl:kS l N B:=⟨λa h=>k.s.f a<|.tail _ h,λa h=>k.s.c a<|.tail _ h⟩;have hl:∀a∈l,a∈U.F:=λa h=>k.F a<|.tail _ h;have hD:=k.F D<|.head _;have m1:∀a∈l,a∈D::(l++N):=λa h=> .tail _ (rG _ h);have m2:∀a∈N,a∈D::(l++N):=λa h=> .tail _ (kM _ h);induction r generalizing i ls acc U s with
 |nil=>
  refine ER ?_;show aL _ A ((Hw (kH S P H Y) m (.ref I) (.ref D) B).onRaise (λx=>do Lx x B;QE x)) _ _ s
  refine QF ?_;refine aE hcomp ?_;refine aK<|mY<|aK<|It.E7 hn hl I0 hs (uW<|QG.mp hr) λj c₁=>bA ?_;rw[show ls=[]from h,List.flatten_nil,fS]at q;exact q j U (c₁.s7 I0 hl) (c₁.gd.j4 m1) (Re.H5 Dl hl c₁)<|hacc.gd hD k.n I0 c₁.gd hl
 |cons y r ih=>
  induction ls using bM with
  |nil=>exact h.elim
  |cons l₀ ls=>
  obtain⟨h1,h2⟩:=h;obtain⟨hv,hr'⟩:=Ot hr;rw[List.flatten_cons,←dK]at hlen q;refine ER ?_;show aL _ A ((Hw (kH S P H Y) m (.ref I) (.ref D) B).onRaise (λx=>do Lx x B;QE x)) _ _ s
  refine QF ?_;refine aE hcomp ?_;refine aK (mY (aK (dP (It.G0 (E':=AO w A B R) hn hl I0 hs hv (Q:=λy o=>aL (Md w) A (do
     tL t B y
     let ok ←JO J B
     if ok=aB then IN else tM (.compLoop (kH S P H Y) m (.ref I) (.ref D) B)) (JD w A B R) (AO w A B R) o) λy j c₁ r₁ n₁=> ?_) (λE j ⟨y,e,h₁⟩=> ?_) λq9 q9 h'=>h')))
  ·have I₁:=c₁.s7 I0 hl;have R₁:=Re.H5 Dl hl c₁;refine aK<|FM (HM hA hE 3 h1 I₁ R₁ r₁) λo L₂ σ₂ θ₂ I₂ G₂ R₂ q₂=>aK<|wF (aOM hT q₂ I₂ R₂) λok s₃ σ₃ θ₃ I₃ G₃ q₃=> ?_;have G13:Gd N U j θ₃ s₃:=G₂.j3 G₃.t9;have e3:θ₃.F=U.F:=G13.fr;have G03:Gd (D::(l++N)) U s θ₃ s₃:=(c₁.gd.j4 m1).j3<|G13.j4 m2;have acc₃:iH w θ₃ s₃ D acc:=(hacc.gd hD k.n I0 c₁.gd hl).gd hD (k.s.f D<|.head _) I₁ G13 R₁.s4;have kpI:∀{W:List aM} {θ₀ Z:Th} {s₀ f:aF} {σ₀:aH},Gd W θ₀ s₀ Z f->aJ w σ₀ θ₀ s₀->θ₀.F=U.F->(∀a∈W,a∈θ₀.F)->(∀a∈l,a∉W)->∀{b},F b θ₀ s₀->F b Z f:=λ{W θ₀ Z s₀ f σ₀} G u e hW hd {b} n=>It.i8 n (G.kp hW) λa h p g=>G.i8 a p g (hd a h) λh'=>u.s8 a h'<|e▸hl a h;have n₃:F (i+1) θ₃ s₃:=kpI G13 I₁ rfl R₁.s4 Dl.f n₁;have X₃:=k.eq e3;have R₃:=R₂.gd I₂ G₃;have next:∀{acc':List V} {M:Th} {s₄:aF},aJ w z M s₄->aO w N M s₄ X L B->iH w M s₄ D acc'->acc'=acc++l₀->Gd (D::(l++N)) U s M s₄->F (i+1) M s₄->lI (Md w) A (.compLoop (kH S P H Y) m (.ref I) (.ref D) B) R s₄:=λ{acc' M s₄} I₄ R₄ acc₄ e G04 n₄=>by
    have X₄:=k.eq G04.fr;replace acc₄:=e▸acc₄;exact ih hr' h2 hlen I₄ R₄ X₄ n₄ acc₄ (λf Z I' G' R' a'=>q f Z I' (G04.j3 G') R' a') (λa h=>X₄.F a<|.tail _ h)<|X₄.F D<|.head _
   induction ok using eT with
   |false=>
    obtain⟨e1,e2,e4⟩:=q₃;refine aE (bH (by decide)) ?_
    have el:l₀=[]:=by cases e2;rfl
    exact bA (AG rfl (next (e1▸I₃) (R₃.M0<|LW e4) acc₃ (by rw[el,fS]) G03 n₃))
   |true=>refine aE (bO rfl) ?_;refine hin q₃ I₃ R₃ acc₃ ⟨⟨λa h=>k.s.f a<|qN (.head _) h,λa h=>k.s.c a<|qN (.head _) h⟩,λa h=>X₃.F a<|qN (.head _) h,sJ⟩ ?_ λs₄ M I₄ R₄ acc₄ G34=>next I₄ R₄ acc₄ rfl (G03.j3<|G34.j4 λa h=>(dA.mp h).elim (λe=>e▸ .head _)<|m2 a)<|kpI G34 I₃ e3 (λa h=>(dA.mp h).elim (λe=>e▸X₃.F D (.head _))<|R₃.s4 a) (λa h h'=>(dA.mp h').elim (λe=>k.n<|e▸h)<|Dl.f a h) n₃;replace hlen:=cM▸hlen;exact aR (dI _ _) hlen
  refine aE e ?_;exact aK<|dP h₁ (λq9 o h₂=>h₂) λq9 q9 h'=>h'
end
section
variable{C:cR}{w:aW}{g f:aH}{B o:Th}{s K Y Z:aF}{A:bN}{E:aD->aF->Prop}{x y:aD}{v u:V}{i n:Nat}{l W:List aM}{a D:aM}{S b:cP}{L r:Lc}{N:List aM}{j d:dH}{P:wQ}{h H:dW}{acc F J:List (aX×aM)}{t:aX}{U:iL}
structure CI(h H:dW)(b:cP)(acc F:List (aX×aM)):Prop where
 u5:∀n n' c,(n,c)∈F->(n',c)∈F->n=n'
 lt:∀n c,(n,c)∈F->c<H.objs.size
 y7:∀p∈acc,p∈F
 j6:∀n c,(n,c)∈F->(n,c)∈acc\/((n,.cell)∈b/\h.objs.size<=c/\H.IsCell c aC)
 B0:∀n,(n,di)∈b->∃c,(n,c)∈F
 i9:h.objs.size<=H.objs.size
theorem ZK(w:∀n s c,(n,c)∈acc->(s,c)∈acc->n=s)(q:∀n c,(n,c)∈acc->c<h.objs.size):CI h (BW h b) b acc (Hx h.objs.size b acc):=by
 induction b generalizing h acc with
 |nil=>exact⟨w,q,λu h=>h,λu u h=> .inl h,λu h=>((by contradiction)),bT _⟩
 |cons p i A=>
  obtain⟨a,k⟩:=p;unfold BW Hx;cases v:k==di with
  |false=>
   (refine aE (bH cC) ?_;refine aE (bH cC) ?_)
   have I:=A w q;refine⟨I.u5,I.lt,I.y7,λn c h=>(I.j6 n c h).imp_right λh=>⟨.tail _ h.1,h.2⟩,λn h=> ?_,I.i9⟩;rcases dA.mp h with e|h
   rw[←(dX e).2,lW]at v;exact iE v;exact I.B0 n h
  |true=>
   (refine aE (bO rfl) ?_;refine aE (bO rfl) ?_)
   have z:(h.push {cls:= .type "cell",data:= .cell aC}).objs.size=h.objs.size+1:=lH ..;have y:h.objs.size<=(h.push {cls:= .type "cell",data:= .cell aC}).objs.size:=DK<|bT _;have I:=A (h:=h.push {cls:= .type "cell",data:= .cell aC}) (acc:=(a,h.objs.size)::acc) (λn s c m l=> ?_) λn c m=> ?_;replace I:=z▸I;refine⟨I.u5,I.lt,λp h=>I.y7 p<|.tail _ h,λn c m=> ?_,λn m=> ?_,aR y I.i9⟩;rcases I.j6 n c m with l|l
   rcases dA.mp l with e|l
   refine .inr ⟨by(refine aE ((dX e).1) ?_;refine eJ (jX v) ?_);exact .head _,bW (dX e).2.symm,?_⟩
   exact⟨_,aQX _ _ _ _<|(dX e).2▸kZ _ rfl,rfl⟩;exact .inl l;exact .inr ⟨.tail _ l.1,aR y l.2.1,l.2.2⟩;rcases dA.mp m with e|m
   refine aE ((dX e).1) ?_;exact⟨_,I.y7 _<|.head _⟩;exact I.B0 n m;rcases dA.mp m with e|m
   rcases dA.mp l with x|l
   exact(dX e).1.trans (dX x).1.symm;exact aZ (q _ _ l)<|eI.mpr<|bW (dX e).2.symm;rcases dA.mp l with x|l
   exact aZ (q _ _ m) (eI.mpr<|bW (dX x).2.symm);exact w n s c m l;refine aE z ?_;rcases dA.mp m with e|m
   exact BX (bW (dX e).2);exact zG<|q n c m
theorem Mr{k:Type}{l:List (aX×k)}{c:k}(h:(t,c)∈l):∃i,l.lookup t=aA i/\(t,i)∈l:=by
 induction l with
 |nil=>exact(by contradiction)
 |cons p a m=>
  refine aE KP ?_;cases e:t==p.1 with
  |true=>exact⟨p.2,rfl,by refine aE (jX e) ?_;exact .head _⟩
  |false=>
   rcases dA.mp h with h|h
   rw[←h,lW]at e;exact iE e;obtain⟨i,q,n⟩:=m h;exact⟨i,q,.tail _ n⟩
theorem HY(s:AN S=aB){k l:iL}(h:(t,k)∈S)(H:(t,l)∈S):k=l:=by obtain⟨i,c⟩:=wT.mp h;obtain⟨a,m⟩:=wT.mp H;by_cases e:i=a;replace c:=e▸c;exact(dX<|aV<|c.symm.trans m).2;have:=pw (R:=λp q:aX×iL=>p.1≠q.1) (λn n h=>h.symm) (RO (bI (bI s).2).1) c m e;exact aZ rfl this
structure vA(w:aW)(B:Th)(s:aF)(b:cP)(J:List (aX×aM))(L:Lc):Prop where
 x0:∀i t U,(eD b)[i]? =aA (t,U)->DI U=aB->lg i L=aC
 w9:∀i t,(eD b)[i]? =aA (t,.free)->(∃c,(t,c)∈J)/\∀c v,(t,c)∈J->lg i L=aA v->c∈B.F/\∃x,s.heap.IsCell c (aA x)/\Rv w B s v x
 m9:∀n c,(n,c)∈J->(n,.free)∈b/\c<s.heap.objs.size
theorem UH(I:AN b=aB)(X:vA w B s b J L)(k1:d.scope.kind= .function)(k2:∀t k,fX t=aB->jM (key t) b=aA k->d.kindOf t=aA k\/(k= .free/\d.kindOf t=aA .cell))(k3:d.globals=qY)(k4:d.builtins=Df)
  (n:aU s K) (lo:∀a∈l,s.heap.objs.size<=a) (M:∀a∈N,a∈l) (hC:d.locals∈N) (ns:K.heap.Ns d.locals λq9=>aC) (z:s.heap.objs.size<=d.locals) (A:CI h K.heap b J d.cells) (hz:d.locals<h.objs.size) (D:∀c,h.objs.size<=c->c<K.heap.objs.size->c∈N):aO w N (B.j5 l) K b L d:=by
 have k:=wI (f:=B) n lo;refine⟨I,k1,k2,k3,k4,λa h=>rG _<|M a h,hC,⟨_,ns,λi t v y T=>nn<|(X.x0 i t _ y rfl).symm.trans T⟩,λi t y=> ?_,λi t y=> ?_,A.u5,λt c h=>A.lt t c<|EM h⟩
 ·have C:=(DO<|fT y).1;obtain⟨c,Q⟩:=A.B0 t C;obtain⟨q,e,u⟩:=Mr Q;rcases A.j6 t q u with h|h
  exact aZ (HY I C (X.m9 t q h).1) (by decide)
  exact⟨q,aC,⟨e,D q h.2.1<|A.lt t q u,jQ<|cO hz h.2.1⟩,h.2.2,λv E=>nn<|(X.x0 i t _ y rfl).symm.trans E⟩
 ·have C:=(DO<|fT y).1;obtain⟨⟨c,Q⟩,p⟩:=X.w9 i t y;obtain⟨q,e,u⟩:=Mr<|A.y7 _ Q;rcases A.j6 t q u with h|h
  exact⟨q,⟨e,lU<|cO (X.m9 t q h).2 z⟩,λv E=>(p q v h E).elim λy h1_=>h1_.elim λx R=>R.elim λT h3=>⟨kM _ y,x,OI T λm=>n.i8 q m,k.rv h3⟩⟩;exact aZ (HY I C h.1) (by decide)
end
section
variable{C:cR}{w:aW}{N g:aH}{z S:Th}{s o s₁ F:aF}{A:bN}{E:aD->aF->Prop}{x y:aD}{v u:V}{i n m:Nat}{J:Sr}{Z:List V}{t e U it:aT}{l W:List aM}{b:Bool}{I a D:aM}{Y:cP}{L L':Lc}{r:List aM}{j:dH}{k:Co}{K:PF}{st acc:List V}{c:aT->Co->Co}{T:aT->Co->Co->Co}{d:Nat}{id:aX}{p X:cY}{es ifs:List aT}{B f:List BJ}{H:wQ}
noncomputable def RX(C:cR)(w:aW)(A:bN)(Y:cP)(r:List aM)(j:dH)(D:aM)(c:aT)(m:Nat)(t:aT)(d:Co):Prop:=
 ∀{J:Sr} {Z:List V} {I:aM} {l:List aM} {a:Nat->Th->aF->Prop} {b:List (List V)} {L:Lc} {N:aH} {acc:List V} {z:Th} {s:aF} {R:pJ->aF->Prop},iY w A t J Z I l a->FG (λy K=>aS C d K [y]) L N Z b->(acc++b.flatten).length<=cF->
  aJ w N z s->aO w r z s Y L j->gK r l j z D->lM J Z N->a 0 z s->iH w z s D acc->(∀o S,aJ w N S o->Gd (D::(l++r)) z s S o->aO w r S o Y L j->iH w S o D (acc++b.flatten)->R (.ok .next) o)->
  lI (Md w) A (.compLoop c m (.ref I) (.ref D) j) R s
theorem aHI{E:AB}(T:E.quiet=aB)(hE:eV C w A Y c):OO C w A Y r j D (c U .k8) (do
   (do let _ ←fK (.builtin "list.append") [.ref D,←dJ U j])
   tM E) E:=by
 intro N g L L' l acc z s R h K Q n b i q;refine aK<|aK<|Nx.go (hE h K Q) λx s₁ v y e u d k m=> ?_;obtain⟨e1,e2,e3⟩:=m;have el:l=[v]:=by cases e2;rfl
 rw[el]at i q;have t:=b.eq d.fr;have P:=t.F D<|.head _;refine aK (qb (n.gd (b.F D<|.head _) sJ K d λq9 h=>(by contradiction)) P k i λF I p=>bA<|bA<|AG T ?_)
 have M:∀a∈[D],a∈e.F:=λa h=>qN P h;exact q F e (e1▸I.s7 u M) (((Q.gd K d).H5 b.s M I).M0<|LW e3) p<|d.t9.j3<|I.gd.j4 λa h=>qN (.head _) h
theorem aMS{lp:AB}{t2 it2:aT}{ifs2:List aT}{bc:Co}(hq:lp.quiet=aB)(hA:Ar d A)(hE:eV C w A Y c)(hg:B[m]? =aA ⟨t2,it2,ifs2,0⟩)(ih:RX C w A Y r j D (kH U B H X) m t2 bc):
  OO C w A Y r j D (Bm c Y t2 it2 λI=> .v7 I bc) (do
   let x ←dJ it2 j
   EQ it2.pos
   let x ←aQV it2 j x
   let _ ←runOwn (.compStart (kH U B H X) m (←rI [x] (rE x)) (.ref D) j) j
   tM lp) lp:=by
 intro N g L L' l acc z s R h I0 Re hacc b hlen q;refine aK (dP (Mf (E:=AO w A j R) (kI:=λI=> .v7 I bc) hE hA.v8 (l:=λg J xs u=>xZ (λy K=>aS C bc K [y]) L' g xs λl₁=>cK L N l (.b8 (.a7 l₁)) L' g) (λh=>h) h I0 Re
  (Q:=λt F=>lI (Md w) A (.compStart (kH U B H X) m t (.ref D) j) (λu o=>match u with
    | .ok n=>aL (Md w) A (tM lp) (JD w A j R) (AO w A j R) o
    | .error e=>aQW (Md w) A j (AO w A j R) e o) F) λt F T s₁ σ₁ J Z I₁ G₁ at_ hs q₁=> ?_) (λy s₄ h₄=>aK<|mY<|aK<|cf (IM (Ih h) y)<|aK<|fV<|dP h₄ (λt s₅ h₅=>aK<|wpAny_runOwn h₅) λq9 q9 e=>e) λq9 q9 e=>e)
 induction q₁ with| @of ls hw hq1=>
 obtain⟨e1,e2,e3⟩:=hq1;have el:l=ls.flatten:=by cases e2;rfl
 rw[el]at hlen q;induction at_ with| @mk k l₂ v F It hn p lo hi=>
 have Re₁:=Re.gd I0 G₁;have M:=Wt I₁ Re₁ lo;have hD:=(b.eq G₁.fr).F D<|.head _;have X₂:gK r l₂ j (T.j5 l₂) D:=⟨⟨λa h=>(dA.mp h).elim (λe=>e▸b.s.f D (.head _))<|M.f a,λa h=>(dA.mp h).elim (λe=>e▸b.s.c D (.head _))<|M.c a⟩,λa h=>(dA.mp h).elim (λe=>kM _<|e▸hD)<|rG _,λh=>aZ (I₁.v5 D hD)<|eI.mpr<|lo D h⟩;have a₂:iH w (T.j5 l₂) F D acc:=(hacc.gd (b.F D<|.head _) sJ I0 G₁ λq9 h=>(by contradiction)).j4 (λi=>p.i8 D i) (wI p lo)
 have run:=ih It hw hlen (I₁.y8 p lo hi) (Re₁.j5 p lo) X₂ hs hn a₂ (R:=λu o=>match u with
    | .ok n=>aL (Md w) A (tM lp) (JD w A j R) (AO w A j R) o
    | .error e=>aQW (Md w) A j (AO w A j R) e o) λs₃ θ₃ I₃ G₃ R₃ a₃=>bA (AG hq (by
  have hF:θ₃.F=l₂++T.F:=G₃.fr;have sub:∀a∈T.F,a∈θ₃.F:=λa h=>hF▸kM l₂ h;exact q s₃ ⟨θ₃.ρ,T.F⟩ (e1▸I₃.D8 sub) ((R₃.E6 M hF Re₁.s4).M0<|LW e3) (a₃.j4 (λq9 h=>h)<|Aa sub)<|G₁.t9.j3<|G₃.I2 p lo λa h=>(dA.mp h).elim (λe=> .inr (e▸ .head _)) λh=>(fU.mp h).imp_right<|.tail _))
 exact RJ hg run (It.v4 hn run)
theorem jm(Q:Ar d A)(x:eV C w A Y c)(hT:wA C w A Y T)(ha:(f.all λc=>c.is_async==0)=aB)(hg:B.drop m=⟨t,it,ifs,0⟩::f):RX C w A Y r j D (kH U B H X) m t (cA c Y 3 t<|Ae T ifs<|Bx c T Y U f):=by
 have y:∀{c a n},B.drop n=c::a->B[n]? =aA c/\B.drop (n+1)=a:=λ{c a n} h=>⟨by have:=aN (·[0]?) h;replace this:=(QD)▸this;exact this,by(refine eJ ZQ ?_;refine aE h ?_);rfl⟩
 induction f generalizing m t it ifs with
 |nil=>obtain⟨g1,v⟩:=y hg;exactλ{J Z I l b ls L N acc z s R} It K k I0 Re e M P p q=>Zj (i:=0) (bk:=Bx c T Y U []) Q x hT It (aA9 g1<|uW<|QG.mp v) (aHI rfl x) rfl K k I0 Re e M P p q
 |cons c2 a ih=>obtain⟨t2,E,u,a2⟩:=c2;obtain⟨h1,h2⟩:=bI ha;cases jX h1;obtain⟨g1,v⟩:=y hg;exactλ{J Z I l b ls L N acc z s R} It K k I0 Re e M P p q=>Zj (i:=0) (bk:=Bx c T Y U (⟨t2,E,u,0⟩::a)) Q x hT It (aIH g1 (y v).1) (aMS rfl Q x (y v).1<|ih h2 v) rfl K k I0 Re e M P p q
end
section
variable{C:cR}{w:aW}{σ Z:aH}{F Y:Th}{s s' N U:aF}{A:bN}{E:aD->aF->Prop}{x y:aD}{v u:V}{i n m:Nat}{src:Sr}{X:List V}{t e r it:aT}{l W:List aM}{b:Bool}{I a D:aM}{B g:cP}{L L':Lc}{S:List aM}{j:dH}{k:Co}{K:PF}{st acc:List V}{c:aT->Co->Co}{T:aT->Co->Co->Co}{d:Nat}{id z:aX}{p pos:cY}{es f:List aT}{J P:List BJ}{o:wQ}{H:iL}
noncomputable def pF(j:dH):cP->List (aX×aM)->List (aX×aM)
 |[],acc=>acc
 |(n,k)::a,acc=>match k==tN with
  |true=>pF j a ((n,(j.cells.lookup n).getD 0)::acc)
  |false=>pF j a acc
structure qS(j:dH)(g:cP)(acc cl:List (aX×aM)):Prop where
 m9:∀n c,(n,c)∈cl->(n,c)∈acc\/((n,.free)∈g/\c=(j.cells.lookup n).getD 0)
 y7:∀p∈acc,p∈cl
 B0:∀n,(n,tN)∈g->(n,(j.cells.lookup n).getD 0)∈cl
theorem XQ(acc:List (aX×aM)):qS j g acc (pF j g acc):=by
 induction g generalizing acc with
 |nil=>exact⟨λd d=> .inl,λd h=>h,λd h=>((by contradiction))⟩
 |cons p b l=>
  obtain⟨a,k⟩:=p;show qS j ((a,k)::b) acc (match k==tN with|true=>pF j b ((a,(j.cells.lookup a).getD 0)::acc)|false=>pF j b acc)
  cases i:k==tN with
  |false=>
   have I:=l acc;refine⟨λn c h=>(I.m9 n c h).imp_right λh=>⟨.tail _ h.1,h.2⟩,I.y7,λn h=> ?_⟩;rcases dA.mp h with e|h
   rw[←(dX e).2,lW]at i;exact iE i;exact I.B0 n h
  |true=>
   have I:=l ((a,(j.cells.lookup a).getD 0)::acc);refine⟨λn c h=> ?_,λp h=>I.y7 p<|.tail _ h,λn h=> ?_⟩;rcases I.m9 n c h with h|h
   rcases dA.mp h with e|h
   ·(refine aE ((dX e).1) ?_;refine aE ((dX e).2) ?_;refine eJ (jX i) ?_);exact .inr ⟨.head _,rfl⟩
   exact .inl h;exact .inr ⟨.tail _ h.1,h.2⟩;rcases dA.mp h with e|h
   refine aE ((dX e).1) ?_;exact I.y7 _<|.head _;exact I.B0 n h
theorem aHF(h:∀n,(n,tN)∈o.names->(j.cells.lookup n).isSome=aB):aQY o j=bB (pF j o.names []):=by
 have s:∀(g:cP) (acc:List (aX×aM)),(∀n,(n,tN)∈g->(j.cells.lookup n).isSome=aB)->
   (jD g acc λ(x:aX×iL) i=>if(x.2==tN)=aB then do let a ←cellOf j x.1;bB (ET ((x.1,a)::i))else bB (ET i):eC (List<|aX×aM))=bB (pF j g acc):=by
  intro g;induction g with
  |nil=>exactλl l=>rfl
  |cons p b e=>
   intro acc h;obtain⟨n,k⟩:=p;rw[Lr,show pF j ((n,k)::b) acc=(match k==tN with|true=>pF j b ((n,(j.cells.lookup n).getD 0)::acc)|false=>pF j b acc)from rfl]
   cases m:k==tN with
   |true=>obtain⟨c,q⟩:=wR.mp<|h n<|jX m▸ .head _;rw[bO rfl];unfold cellOf;refine aE q ?_;exact e _ λn d=>h n<|.tail _ d
   |false=>refine aE (bH cC) ?_;exact e _ λn d=>h n<|.tail _ d
 unfold aQY;have:=s o.names [] h;simp only[bind_pure];exact this
theorem Ou(R:aO w S F s B L j)(k:uY z=aB)(a:(jM (key z) B).elim aI Nz=aB):∃c,j.cells.lookup z=aA c/\∀v,lg (nG (key z)<|eD B) L=aA v->c∈F.F/\∃x,s.heap.IsCell c (aA x)/\Rv w F s v x:=by
 cases h:jM (key z) B with
 |none=>replace a:=h▸a;exact aZ a cC
 |some H=>
  replace a:=h▸a;induction H with
  |cell=>
   obtain⟨c,u,b,i,n⟩:=R.A8 _ z (Ad R.i0 k h (λe=>(by contradiction)))
   exact⟨c,b.1,λv e=>⟨R.s4 _ b.2.1,(n v e).casesOn λx d=>d.casesOn λm l=>⟨x,m▸i,l⟩⟩⟩
  |free=>
   obtain⟨c,b,i⟩:=R.w9 _ z (Ad R.i0 k h (λe=>(by contradiction)))
   exact⟨c,b.1,i⟩
  |_=>exact aZ a cC
theorem DE(h:CX B g=aB)(a:(z,tN)∈g):uY z=aB/\(jM (key z) B).elim aI Nz=aB:=bI<|cX.mp h _ a
theorem aJE{d:Type}(b:d->Option V)(l:List d):lg i (l.map b)=(l[i]?).bind b:=by
 induction l generalizing i with
 |nil=>cases i<;>rfl
 |cons a c e=>induction i using fO with
  |zero=>rfl
  |succ i=>exact e
theorem Uj{q:aX×iL}(h:(eD g)[i]? =aA q):lg i (Gr (Cj B g) L)=match q.2 with| .free=>lg (nG (key q.1)<|eD B) L|_=>aC:=by
 show lg i (dj _<|dj _ _)=_;rw[kL,aJE,h];show(match(match q.2 with| .free=>aA (nG (key q.1)<|eD B)|_=>aC)with|none=>aC|some k=>lg k L)=_
 cases q.2<;>rfl
theorem aMW(R:aO w S F s B L j)(h:CX B g=aB):vA w F s g (pF j g []) (Gr (Cj B g) L):=by
 have a:=XQ (j:=j) (g:=g) [];have k:∀{n c},(n,c)∈pF j g []->(n,tN)∈g/\j.cells.lookup n=aA c/\∀v,lg (nG (key n)<|eD B) L=aA v->c∈F.F/\∃x,s.heap.IsCell c (aA x)/\Rv w F s v x:=λ{n c} l=>by
  obtain⟨d,m⟩:=(a.m9 n c l).resolve_left λh=>(by contradiction)
  obtain⟨q,e,b⟩:=Ou R (DE h d).1 (DE h d).2;rw[e]at m;refine aE (show c=q from m) ?_;exact⟨d,e,b⟩
 refine⟨λi z H d m=> ?_,λi z d=>⟨⟨_,a.B0 z (DO<|fT d).1⟩,λc v l p=>(k l).2.2 v (by replace p:=(Uj d)▸p;exact p)⟩,λn c l=>⟨(k l).1,R.A0 n c (k l).2.1⟩⟩
 rw[Uj d];induction H with
 |free=>exact aZ m cC
 |_=>rfl
theorem aD9{a:aX×iL->aX×iL}(i:∀p,(a p).1=p.1)(d:∀p,(a p).2=p.2\/(p.2= .free/\(a p).2= .cell))(h:g.lookup z=aA H):(g.map a).lookup z=aA H\/(H= .free/\(g.map a).lookup z=aA .cell):=by
 induction g with
 |nil=>exact nn h
 |cons p b c=>
  rw[KP]at h;rw[sH,KP,i];cases e:z==p.1 with
  |true=>rw[e]at h;rw[←aV h];exact(d p).imp (aN aA) λh=>⟨h.1,aN aA h.2⟩
  |false=>rw[e]at h;exact c h
abbrev Mz(o:wQ)(j:dH)(C:aM):dH:=
 {newEnv o C j.globals (Hx (C+1) o.names<|pF j o.names []) j.qual aC .none (aA j) 0 with scope:=relabel o j}
noncomputable abbrev CS:dE:={cls:= .type "dict",data:= .dict #[]}
theorem xk{e:List (aX×aM)}{Q:dH->aF->Prop}
  (h:Q (newEnv o s.heap.objs.size j.globals (Hx (s.heap.objs.size+1) o.names e) j.qual aC .none (aA j) Df) {s with heap:=BW (s.heap.push CS) o.names}):
  aL (Md w) A (QI o j.globals e [] j.qual aC .none<|aA j) Q E s:=by
 simp only[QI,Option.isSome_some,if_true];refine aK<|aQZ ?_;refine aK (wpAny_layCells _ (λd a c=>by cases b:a==di<;>simp[b]) _ _ _ _ ?_)
 rw[show({s with heap:=s.heap.push {cls:= .type "dict",data:= .dict #[]}}:aF).heap.objs.size=s.heap.objs.size+1 from lH ..]
 exact aK (bA<|bA h)
end
section
variable{C:cR}{w:aW}{g σ':aH}{Y θ':Th}{s s' U j:aF}{A:bN}{E:aD->aF->Prop}{x y:aD}{v u:V}{i n m:Nat}{src:Sr}{all:List V}{t e X it:aT}{l W:List aM}{b:Bool}{I a D Z:aM}{H N:cP}{L L':Lc}{fr:List aM}{S:dH}{k:Co}{K:PF}{st acc:List V}{c o:aT->Co->Co}{T:aT->Co->Co->Co}{d:Nat}{id nm:aX}{p pos:cY}{es J:List aT}{gens B:List BJ}{f:wQ}{R:V->aH->Prop}
inductive Ao (w:aW) (Y:Th) (s:aF) (R:V->aH->Prop) (D Z:aM) (s₅:aF):Prop
 |mk {θ₅:Th} {v:V} {g:aH} (F:θ₅.F=Z::Y.F) (I:aJ w g θ₅ s₅) (G:Gd [] Y s ⟨θ₅.ρ,Y.F⟩ s₅) (r:Rv w θ₅ s₅ v (.ref D)) (z:s.heap.objs.size<=Z) (ns:∃m,s₅.heap.Ns Z m) (q:R v g)
theorem Gd.H6(b:aU s U)(d:∀a∈l,s.heap.objs.size<=a){c:List aM}(G:Gd W (Y.j5 l) U θ' s')(h:∀a∈W,a∈l\/a∈c):Gd c Y s ⟨θ'.ρ,Y.F⟩ s':=Gd.I2 b d G h
theorem iz{p:aF}{l:Th}(I0:aJ w g Y s)(G:Gd [] Y s ⟨l.ρ,Y.F⟩ p)(t:aJ w g l p)(P:∀a,a=D\/a=Z\/a∈Y.F->a∈l.F)(y:s.heap.objs.size<=D)(z:s.heap.objs.size<=Z)(Q:D≠Z)(a:iH w l p D acc)(A:∃m,p.heap.Ns Z m)
  (q:aS C (mu b k) K (.a7 acc::st) L g):Ao w Y s (Rn C k K st L) D Z p:=by
 have u:∀a∈Z::Y.F,a∈l.F:=λa h=>P a<|(dA.mp h).imp id id|> .inr;have F:D∉Z::Y.F:=λh=>(dA.mp h).elim Q λh=>aZ (I0.v5 D h)<|eI.mpr y;have x:=P D<|.inl rfl;have E:¬pY l.ρ D:=λh=>t.s8 D h x;induction a with| @mk vs n d M r=>
 induction b using eT with
 |false=>exact .mk (θ₅:=⟨l.ρ,Z::Y.F⟩) rfl (t.D8 u) G (vZ▸RL.mk (.mk d rfl rfl rfl) (λh=>h.elim E F) M ((Aa u).rl r)) z A q
 |true=>have I:Kp l p ⟨l.ρ++[(D,D)],Z::Y.F⟩ p:=⟨λb c h n=>⟨h,λR=>R.elim (λh=>(Bo h).elim (λh=>n<|.inl h) λh=>h.elim (λe=>n<|.inr (e▸x)) λe=>n<|.inr (e▸x)) λh=>n<|.inr (u b h)⟩,OD⟩;have i:=t.F7 (.n7 p) (q:=(D,D)) (o:= .a7 acc) u (λa h=>have e:a=D:=h.elim id id;e▸⟨t.u3 D<|.inr x,E,F⟩) I (qJ.mk rfl d M<|I.rl r);refine .mk (v:= .a9 g.length) rfl i ⟨?_,rfl,λa h=>(Bo h).elim (G.o8 a) λh=> .inr (h.elim (λe=>e▸y) λe=>e▸y),G.i9,G.i8,G.os⟩ (RR.mk (q:=(D,D)) t.J2) z A q;obtain⟨e,T⟩:=G.o9;exact⟨e++[(D,D)],by show l.ρ++[(D,D)]=_;rw[show l.ρ=Y.ρ++e from T,dK]⟩
structure vL(C:cR)(w:aW)(A:bN)(H:cP)(c o:aT->Co->Co)(T:aT->Co->Co->Co)(X t it:aT)(J:List aT)(B:List BJ)(f:wQ):Prop where
 E:eV C w A H c
 E':eV C w A f.names o
 T:wA C w A f.names T
abbrev Mw(H:cP)(c o:aT->Co->Co)(T:aT->Co->Co->Co)(X t it:aT)(J:List aT)(B:List BJ)(f:wQ)(b:Bool)(k:Co):Co:=
 Bm c H t it λI=> .j8 (Cj H f.names) I (cA o f.names 3 t<|Ae T J<|Bx o T f.names X B) (mu b k)
theorem aBT(d:AN N=aB)(x:aX×iL)(b:x∈N)(h:x.2= .local):N.lookup x.1=aA .local:=by obtain⟨a,k⟩:=x;obtain⟨c,e,i⟩:=Mr b;exact aE e (aE (HY d i b) (aE (show k= .local from h) rfl))
theorem WI(i:vL C w A H c o T X t it J B f)(hA:Ar d A)(ha:(B.all λc=>c.is_async==0)=aB)(hg:CV f=aB)(hc:CX H f.names=aB)(h:aS C (Mw H c o T X t it J B f b k) K st L g)(I0:aJ w g Y s)(Re:aO w fr Y s H L S)
  {RR:aD->aM->pJ->aF->Prop} (hRR:∀D Z s₅,Ao w Y s (Rn C k K st L) D Z s₅->RR (.ref D) Z (.ok .next) s₅):
  aL (Md w) A (dJ it S) (λx U=>aL (Md w) A (rE x) (λz j=>aL (Md w) A (QJ []) (λacc s₃=>
   aL (Md w) A (QI f S.globals (pF S f.names []) [] S.qual aC .none<|aA S) (λcenv s₄=>
    lI (Md w) A (.compStart (kH X (⟨t,it,J,0⟩::B) f pos) 0 z acc {cenv with scope:=relabel f S}) (RR acc cenv.locals) s₄) E s₃) E j) E U) E s:=by
 obtain⟨hk,hg⟩:=bI hg;have hkf:f.kind= .function:=by cases hs:f.kind<;>first|rfl|(replace hk:=hs▸hk;exact aZ hk cC)
 refine Mf (kI:=λI=> .j8 (Cj H f.names) I (cA o f.names 3 t<|Ae T J<|Bx o T f.names X B) (mu b k)) i.E hA.v8 (l:=λg q9 xs r=>xZ (λy K=>aS C (cA o f.names 3 t<|Ae T J<|Bx o T f.names X B) K [y]) (Gr (Cj H f.names) L) g xs λl=>wG (aQ<|l.length<=cF)<|aS C (mu b k) K (.a7 l::r) L g) (λh=>h) h I0 Re λz j θ₁ U σ₁ src all I₁ G₁ at_ hs q=> ?_;induction at_ with| @mk Q l q4 j It hn q3 lo hi=>
 induction q with| @of ls hw hq=>
 induction hq with|of hlen hq=>
 have I₂:=I₁.y8 q3 lo hi;have R₂:=(Re.gd I0 G₁).j5 q3 lo;refine yY<|xk ?_;generalize hH:j.heap.push {cls:= .type "list",dict:=aC,data:= .seq ([]:List aD).toArray}=v;have zH:v.objs.size=j.heap.objs.size+1:=by rw[←hH,lH]
 have zP:(v.push CS).objs.size=v.objs.size+1:=lH ..;have cls:=aMW R₂ hc;have capL:∀{n c},(n,c)∈pF S f.names []->S.cells.lookup n=aA c:=λ{n c} h=>by
  obtain⟨h1,h2⟩:=((XQ (j:=S) []).m9 n c h).resolve_left λh=>(by contradiction)
  obtain⟨o,e,_⟩:=Ou R₂ (DE hc h1).1 (DE hc h1).2;replace h2:=e▸h2;exact e.trans<|aN aA h2.symm
 have ci:=ZK (h:=v.push CS) (b:=f.names) (acc:=pF S f.names []) (λn n' c h h'=>R₂.o0 n n' c (EM<|capL h)<|EM<|capL h') λn c h=>cO (cls.m9 n c h).2 (by(refine aE zP ?_;refine aE zH ?_);exact dI _ 2)
 replace ci:=zP▸ci;show lI _ _ (.compStart _ 0 (.ref Q) (.ref j.heap.objs.size) (Mz f S v.objs.size)) (RR (.ref j.heap.objs.size) v.objs.size) {j with heap:=BW (v.push CS) f.names}
 generalize hs4:({j with heap:=BW (v.push CS) f.names}:aF)=s₄
 have e4:s₄.heap=BW (v.push CS) f.names:=by exact eJ hs4 rfl
 replace ci:=(e4).symm▸ci;have z4:v.objs.size+1<=s₄.heap.objs.size:=zP▸ci.i9;have k4:∀{a u},(v.push CS).get? a=aA u->s₄.heap.get? a=aA u:=λ{a u} h=>e4▸aQX _ _ _ _ h;have g4:aU j s₄:=⟨λa u h=>k4<|fC _<|hH▸fC _ h,aR (by rw[zH];exact dI _ 2) z4,by rw[←hs4],by exact eJ hs4 rfl⟩
 obtain⟨kz,hz⟩:=Ly<|EU z4;have mf:∀{a},a∈QK v.objs.size kz↔v.objs.size<=a/\a<s₄.heap.objs.size:=λ{a}=>by refine aE hz ?_;exact aT7
 have hZ:v.objs.size∈QK v.objs.size kz:=mf.mpr ⟨bT _,z4⟩;generalize hfr:QK v.objs.size kz=fr' at mf hZ;have lo4:∀a∈j.heap.objs.size::fr',j.heap.objs.size<=a:=λa h=>(dA.mp h).elim (λe=>bW e.symm) λh=>aR (by refine aE zH ?_;exact jC _) (mf.mp h).1
 have hi4:∀a∈j.heap.objs.size::fr',a<s₄.heap.objs.size:=λa h=>(dA.mp h).elim (λe=>e▸cO (by refine aE zH ?_;exact QC<|aT8 1) z4) λh=>(mf.mp h).2
 have R₄:aO w fr' ((θ₁.j5 l).j5 (j.heap.objs.size::fr')) s₄ f.names (Gr (Cj H f.names) L) (Mz f S v.objs.size):=by
  refine UH hg cls hkf (λnm kd h1 h2=> ?_) R₂.gl R₂.bi g4 lo4 (λa h=> .tail _ h) hZ ?_ (by show _<=v.objs.size;refine aE zH ?_;exact jC _) ci (by refine aE zP ?_;exact jY _) λc h1 h2=>mf.mpr ⟨aR (by refine aE zP ?_;exact jC _) h1,h2⟩
  refine aD9 (λp=> ?_) (λp=> ?_) (Iq (λp hp=>(Ea hg p hp).n) h1 h2).2;dsimp only;split<;>rfl;dsimp only;split;rename_i hq;exact .inr ⟨jX (bI (bI hq).1).1,rfl⟩;exact .inl rfl;exact(aT9 v<|.type "dict").keeps λa u h=>k4 h
 have hF4:∀{a},a∈l->a∈((θ₁.j5 l).j5 (j.heap.objs.size::fr')).F:=λh=>kM _<|rG _ h;have lt2:∀{a},a∈l->a<j.heap.objs.size:=λh=>hi _ h;have Sl:∀a∈j.heap.objs.size::l,a∉fr':=λa h h'=>aZ (mf.mp h').1 (dp.mpr (by refine aE zH ?_;exact(dA.mp h).elim (λe=>e▸jY _) λh=>zG<|lt2 h))
 have Sc:∀a∈j.heap.objs.size::l,∀nm,(Mz f S v.objs.size).cells.lookup nm≠aA a:=λa h nm e=>by
  rcases ci.j6 nm a (EM e)with h1|h1
  exact aZ ((Re.gd I0 G₁).A0 nm a<|capL h1) (eI.mpr<|(dA.mp h).elim (λe=>e▸q3.i9) λh=>lo a h);exact aZ h1.2.1 (dp.mpr (by(refine aE zP ?_;refine aE zH ?_);exact(dA.mp h).elim (λe=>e▸QC (aT8 1)) λh=>Nat.lt_add_right 2<|lt2 h))
 have acc₄:iH w ((θ₁.j5 l).j5 (j.heap.objs.size::fr')) s₄ j.heap.objs.size []:= .mk (vs:=[]) (n:=0) (k4<|fC _<|hH▸kZ _ rfl) (eO _) rfl;have run:=jm (H:=f) (X:=pos) (B:=⟨t,it,J,0⟩::B) (m:=0) hA i.E' i.T ha rfl It hw (bQ hlen) (I₂.y8 g4 lo4 hi4) R₄ ⟨⟨Sl,Sc⟩,λa h=>(dA.mp h).elim (λe=>e▸ .head _) hF4,λh=>rH _<|lt2 h⟩ hs (It.i8 hn (wI g4 lo4) λa q9 u=>g4.i8 a u) acc₄
  (R:=RR (.ref j.heap.objs.size) v.objs.size) λs₅ θ₅ I₅ G₅ R₅ a₅=>hRR _ _ _ ?_
 ·exact RJ rfl run<|It.v4 (It.i8 hn (wI g4 lo4) λa q9 u=>g4.i8 a u) run
 ·have G₅':Gd l (θ₁.j5 l) j ⟨θ₅.ρ,(θ₁.j5 l).F⟩ s₅:=Gd.H6 g4 lo4 G₅ λa h=>(dA.mp h).elim (λe=> .inl (e▸ .head _)) λh=>(fU.mp h).elim .inr λh=> .inl (.tail _ h);have G₆:Gd [] θ₁ U ⟨θ₅.ρ,θ₁.F⟩ s₅:=Gd.H6 (θ':=⟨θ₅.ρ,(θ₁.j5 l).F⟩) q3 lo G₅' λa h=> .inl h;have z1:U.heap.objs.size<=j.heap.objs.size:=q3.i9;obtain⟨mm,hm,_⟩:=R₅.ns;have F5:θ₅.F=(j.heap.objs.size::fr')++(l++θ₁.F):=G₅.fr;have M:=iz (s:=U) (Y:=θ₁) I₁ G₆ I₅ (Z:=v.objs.size) (λa h=>by
   refine aE F5 ?_;exact h.elim (λe=>e▸ .head _) λh=>h.elim (λe=>e▸rG _ (.tail _ hZ)) λh=>kM _<|kM _ h) z1 (aR z1 (by refine aE zH ?_;exact jC _)) (by refine aE zH ?_;exact lU<|jY _) a₅ ⟨mm,hm⟩ hq
  induction M with|mk F I G r z ns q=>exact .mk (F.trans<|aN _ G₁.fr) I (by have:=G₁.j3 G;replace this:=G₁.fr▸this;exact this) r (aR G₁.i9 z) ns q
end
section
variable{C:cR}{w:aW}{F σ':aH}{B H:Th}{s z s₁ s₂:aF}{A:bN}{E:aD->aF->Prop}{x y:aD}{v u:V}{i n m:Nat}{t e U P:aT}{l W:List aM}{b:Bool}{D Z:aM}{S names:cP}{L L':Lc}{r:List aM}{g:dH}{k:Co}{K:PF}{st acc:List V}{c o:aT->Co->Co}{T:aT->Co->Co->Co}{d:Nat}{id X:aX}{p Y:cY}{es N:List aT}{j:List BJ}{f:wQ}{R:V->aH->Prop}{J:dW}
structure Ac(w:aW)(W:List aM)(F:aH)(B:Th)(s:aF)(H:Th)(s₅ s₆:aF):Prop where
 I:aJ w F ⟨H.ρ,B.F⟩ s₆
 G:Gd W B s ⟨H.ρ,B.F⟩ s₆
 k:Kp H s₅ ⟨H.ρ,B.F⟩ s₆
theorem Wi{i:aF}(d:H.F=Z::B.F)(I:aJ w F H i)(G:Gd W B s ⟨H.ρ,B.F⟩ i)(c:s.heap.objs.size<=Z)(x:lT Z i.heap J):Ac w W F B s H i {i with heap:=J}:=by have l:=bJ.u9 (t:=i.toks) x;have n:∀a∈[Z],a∈H.F:=λa h=>qN (d▸ .head _) h;have k:∀a∈B.F,a∈H.F:=λa h=>d▸ .tail _ h;have u:=l.kp n;refine⟨(l.s7 I n).D8 k,⟨G.o9,rfl,G.o8,aR G.i9 l.i9,λa b h v m=>l.i8 a b (G.i8 a b h v m) λe=>xY h (dU.mp e▸c)<|bT _,l.os.trans G.os⟩,⟨λa b h m=>have q:=u.k a b h m;⟨q.1,λh=>q.2<|h.imp_right<|k a⟩,λp p h=>h⟩⟩
theorem XG(a:CV f=aB)(d:CX S f.names=aB)(k:aO w r B s S L g):aQY f g=bB (pF g f.names [])/\f.kind= .function/\∀x∈f.names,x.2= .local->f.names.lookup x.1=aA .local:=by
 obtain⟨b,a⟩:=bI a;refine⟨aHF λn h=> ?_,by cases i:f.kind<;>first|rfl|(rw[i]at b;exact aZ b cC),aBT a⟩
 obtain⟨c,e,_⟩:=Ou k (DE d h).1 (DE d h).2;rw[e];rfl
theorem aNU(l:vL C w A S c o T U t P N j f)(hA:Ar d A)(ha:(j.all λc=>c.is_async==0)=aB)(u:CV f=aB)(v:CX S f.names=aB)(h:aS C (Mw S c o T U t P N j f b k) K st L F)(I0:aJ w F B s)(x:aO w r B s S L g):
  aL (Md w) A (dJ (.ListComp U (⟨t,P,N,0⟩::j) f Y) g) (Nx w B s<|Rn C k K st L) E s:=by
 obtain⟨h1,h2,h3⟩:=XG u v x;rw[eval_ListComp];refine aUA (use:=aC) rfl (IM<|Ih h) h1 h2 h3<|WI (pos:=Y) l hA ha u v h I0 x (RR:=compPost (Md w) A E aC<|Nx w B s<|Rn C k K st L) λD Z p M=> ?_;induction M with|mk i I G a e y q=>
 obtain⟨m,R⟩:=y;exact⟨m,R,λJ Q=>have n:=Wi i I G e Q;.mk n.I n.G (n.k.rv a) q⟩
theorem uw{x:aT->Co->Co}{k':Co}{py spos:cY}(hAs:Ma C w A S x)(i:vL C w A S c o T U t P N j f)(hA:Ar d A)(ha:(j.all λc=>c.is_async==0)=aB)(hg:CV f=aB)(hc:CX S f.names=aB)
  (hsw:swapsWith (.ListComp U (⟨t,P,N,0⟩::j) f Y) (aA<|.Name X py) spos.line g=bB aB) (h:aS C (Mw S c o T U t P N j f b<|x (.Name X py) k') K [] L F) (I0:aJ w F B s) (Re:aO w r B s S L g):
  aL (Md w) A (exec (.Assign [.Name X py] (.ListComp U (⟨t,P,N,0⟩::j) f Y) spos) g) (Nf w r r S g B s<|rU (aS C k' K) K) E s:=by
 obtain⟨h1,h2,h3⟩:=XG hg hc Re;rw[exec_Assign_Name_used _ _ _ _ hsw];refine aK<|mY<|aK ?_;show aL _ A (do let _ ←comprehension (.ListComp U (⟨t,P,N,0⟩::j) f Y) f g _ (QJ []) aI (dJ P g) (aA<|tL (.Name X py) g)) _ _ s
 refine aK (dP (aUA (Q:=λq9 z=>Nf w r r S g B s (rU (aS C k' K) K) .next z) (use:=aA<|tL (.Name X py) g) rfl (IM<|Ih h) h1 h2 h3<|WI (pos:=Y) i hA ha hg hc h I0 Re (RR:=compPost (Md w) A E (aA<|tL (.Name X py) g) λq9 z=>Nf w r r S g B s (rU (aS C k' K) K) .next z) λD Z s₅ M=> ?_) (λq9 z hq=>bA<|bA hq) λq9 q9 e=>e);induction M with| @mk R v σ₅ F5 I G u n ns q=>
 obtain⟨mm,oZ,es,ep,hoZ,rZ⟩:=ns;have hZ5:Z∈R.F:=F5▸ .head _;have hZF:Z∉B.F:=λh=>aZ (I0.v5 Z h)<|eI.mpr n;have sub:∀a∈B.F,a∈R.F:=λa h=>F5▸ .tail _ h;have kp:Kp B s R s₅:=⟨λa k h hn=>have q:=G.k0.k a k h hn;⟨q.1,λJ=>J.elim (λJ=>q.2<|.inl J) λJ=>(dA.mp<|F5▸J).elim (λe=>xY h (e▸n)<|bT _) λJ=>q.2<|.inr J⟩,λp q h=>G.k0.r p q h⟩;have R₅:aO w r R s₅ S L g:=Re.j4 sub (λa k ha q9 ho=>G.i8 a k ho (λh=>(by contradiction)) λh=>I0.s8 a h ha) G.i9 kp
 show aL (Md w) A (tL (.Name X py) g<|.ref D) _ E s₅;refine FM (hAs q I R₅ u) λs₆ L₆ σ₆ θ₆ I₆ G₆ R₆ q₆=> ?_;have hZfr:Z∉r:=λh=>hZF<|Re.s4 Z h;have F6:θ₆.F=Z::B.F:=G₆.fr.trans F5;have G':Gd r B s ⟨θ₆.ρ,B.F⟩ s₆:=by
  refine⟨?_,rfl,λa h=>(G₆.o8 a h).elim (G.o8 a) λh=> .inr (aR G.i9 h),aR G.i9 G₆.i9,λa k h hw hn=>G₆.i8 a k (G.i8 a k h (λh=>(by contradiction)) hn) hw λJ=>(G.o8 a J).elim hn λJ=>xY h J<|bT _,G₆.os.trans G.os⟩
  obtain⟨e,he⟩:=G.o9;obtain⟨e',he'⟩:=G₆.o9;exact⟨e++e',by show θ₆.ρ=_;rw[he',show R.ρ=B.ρ++e from he,dK]⟩
 refine⟨mm,⟨oZ,es,ep,G₆.i8 _ _ hoZ hZfr λh=>I.s8 _ h hZ5,rZ⟩,λJ hs=> ?_⟩;have m:=Wi F6 I₆ G' n hs;have ch:=bJ.u9 (t:=s₆.toks) hs;have y:kS [Z] r g:=⟨λa h J=>hZfr<|dU.mp h▸J,λa h X e=>aZ (Re.A0 X a e)<|eI.mpr<|dU.mp h▸n⟩;exact .mk (fl:= .e9) m.I m.G ((R₆.H5 y (λa h=>qN (F6▸ .head _) h) ch).E6 (l:=[Z]) y F6 Re.s4) rfl q₆
end
section
variable{w:aW}{B J:aH}{f N:Th}{s P F H:aF}{A:bN}{E:aD->aF->Prop}{x y:aD}{a v u:V}{i n:Nat}{j:List aD}{l:List V}{R:V->aH->Prop}{c:aM}
theorem aNI(h:s.heap.IsList c j.toArray\/s.heap.IsTuple c j.toArray):∃b,iM b s.heap c j:=h.elim (λh=>⟨aI,h⟩) λh=>⟨aB,h⟩
theorem ir(a:j.length<=rD):
  Meets (Builtin.«tuple.__new__» ⟨[.type "tuple",.ref c],[]⟩)
   (λD R s=>s.heap.IsList c j.toArray/\∀e:dW,(∀b i,s.heap.get? b=aA i->e.get? b=aA i)->s.heap.objs.size<=e.objs.size->R (.ok (.ret (.ref e.objs.size))) {s with heap:=e.push<|ON j}):=
 .of_wp λm w A R s h=>by obtain⟨r,g,d,l,p⟩:=s;obtain⟨u,h⟩:=h;have q:=sub_tuple_self;have k:=init_tuple_lookup;have x:=madeHere_tuple;have C:Heap.IsList (aQS ⟨r,g,d,l,p⟩) c j.toArray:=u;obtain⟨o,t,y,n,E⟩:=id u;have z:bw ⟨r,g,d,l,p⟩ (.ref c) "list":=⟨o,t,y⟩;wp_walk using AutoSeq1.wpAny_loadPart' t,AD z,collect_list (hsz:=a) C;refine⟨_,rfl,h _ (λb i v=> ?_) ?_⟩;exact(Dt _ _<|jQ<|iF v).trans<|fC _ v;rw[Qz];exact DK<|bT _
theorem zo(k:s.heap.IsList c j.toArray)(b:j.length<=cF)(I:aJ w B f s)(r:Rl w f s l j)(q:R (.a8 l) B):aL (Md w) A (fK (.type "tuple") [.ref c]) (Nx w f s R) E s:=
 callType_new PySem.F.called_tuple (by decide) (PySem.F.typeCall_tuple_1 _) (PySem.F.newCall_tuple_1 _) (λd=>PySem.F.args_object_init_2 d _) PySem.F.entry_tuple_new
  (ir<|jN b) ⟨k,λe m i=>by
   have g:aU s {s with heap:=e}:=⟨λa o h=>m a o h,i,rfl,rfl⟩
   exact⟨⟨_,kZ _ rfl,rfl⟩,(Kx (s:={s with heap:=e}) (I.l8 g) (t:=s.toks) b (g.kp.rl r) q).tr (g.gd _ _)⟩⟩
theorem aJ5(I:aJ w B f s)(d:Rv w f s a x)(h:iX 4 a B=aA v)(q:R v B):aL (Md w) A (fK (.type "tuple") [x]) (Nx w f s R) E s:=by
 obtain⟨u,c,t⟩:=ob h;obtain⟨l,n,e⟩:=om t;replace q:=(e).symm▸q;obtain⟨b,y⟩:=Ye n;replace c:=y▸c;have r:=lE I d c;induction b using eT with
 |true=>
  have z:a= .a8 l:=by
   cases a with
   |a9 p=>
    dsimp only[eK]at c;cases i:B[p]? with
    |none=>replace c:=i▸c;exact nn c
    |some o=>replace c:=i▸c;cases o<;>cases c
   |_=>exact aV c
  replace d:=z▸d;induction r with|mk g _ _ _=>exact call_tuple_same g<|.A5 I d q
 |false=>induction r with|mk g _ m k=>exact zo g.s9 m I k q
theorem Nk(I:aJ w B f s){a:dW}{n t:Nat}(i:j.length<=cF)(h:Rl w f s l j){b:Bool}{C:cR}{k:Co}{K:PF}{d:List V}{L:Lc}(q:aS C (mu b k) K (.a7 l::d) L B)(m:∀b e,s.heap.get? b=aA e->a.get? b=aA e)
  (c:a.get? s.heap.objs.size=aA {cls:= .type "list",dict:=aC,data:= .seq j.toArray n,slots:= #[]}):Nx w f s (Rn C k K d L) (.ref s.heap.objs.size) {s with heap:=a,toks:=t}:=by
 have g:aU s {s with heap:=a,toks:=t}:=⟨m,dR<|iF c,rfl,rfl⟩
 induction b using eT with
 |false=>exact .l8 I g (vZ▸ .mk (.mk c rfl rfl rfl) (I.o8<|bT _).n i (g.kp.rl h)) q
 |true=>exact .N7 (o:= .a7 l) I g (bT _) (λk=>qJ.mk rfl c i<|k.rl h) q
theorem F2.of{d c:Type}{R:d->c->Prop}{l:List d}{m:List c}(e:m.length=l.length)(g:∀(i:Nat) a b,l[i]? =aA a->m[i]? =aA b->R a b):F2 R l m:=by
 induction l generalizing m with
 |nil=>exact List.length_eq_zero_iff.mp e
 |cons a l k=>induction m using bM with
  |nil=>exact vU e
  |cons b m=>exact .mk (g 0 a b rfl rfl) (k (nP e) λi a b h n=>g (i+1) a b h n)
theorem aDQ(Y:A.handled=aC)(I:aJ w B f s){l:List (V×V)}{T:List fB}(D:bL s c T (F2 (Rd w f s) l) l)(R:gE l=aB){b:Bool}{C:cR}{k:Co}{K:PF}{Q:List V}{L:Lc}(q:aS C (mu b k) K (.a7 (l.map (·.1))::Q) L B):
  aL (Md w) A (fK (.type "list") [.ref c]) (Nx w f s<|Rn C k K Q L) E s:=by
 obtain⟨n,g⟩:=D.g;have z:(T.map vE).length=(l.map (·.1)).length:=(bP _).trans<|Ax D.hs;refine kdl_call (kdl_dict<|wH D.h3) Y (Ia g D R) (z▸jN (Ax D.hs▸D.hl)) λh' tk d c' h o a=> ?_;have m:d.toList.length=(l.map (·.1)).length:=by exact aE pL (aE a.1<|aE z rfl)
 refine Nk (j:=d.toList) I (by(refine aE m ?_;refine eJ (Ax D.hs) ?_);exact D.hl) (F2.of m λi v x S M=> ?_) q h (by refine aE aUB ?_;exact o)
 replace M:=(mZ)▸M;obtain⟨U,z',u,Z⟩:=a.2 i x M;rw[jW]at S u;obtain⟨p,X,e⟩:=om S;obtain⟨en,y,r⟩:=(CR D.hs R).at X;replace u:=y▸u;have ek:U=qV en.key:=aN Lh (aV u).symm;obtain⟨t,ex⟩:=Ka Z
 (refine eJ e ?_;refine aE r.k ?_;refine aE ex ?_;refine aE ek ?_)
 exact RS.mk t r.l
theorem io(U:A.handled=aC)(I:aJ w B f s)(T:Rv w f s a x)(h:iX 5 a B=aA v){b:Bool}{C:cR}{k:Co}{K:PF}{m:List V}{L:Lc}(q:aS C (mu b k) K (v::m) L B):aL (Md w) A (fK (.type "list") [x]) (Nx w f s<|Rn C k K m L) E s:=by
 obtain⟨u,Z,d⟩:=ob h;have r:=lE I T Z;have Q:∀{l},nJ u=aA l->V.a7 l=v->aL (Md w) A (fK (.type "list") [x]) (Nx w f s<|Rn C k K m L) E s:=λ{l} Y e=>by
  replace q:=(e).symm▸q;have R:=Iz r Y;induction R with| @mk c j X i S=>
  rcases X with⟨o,p,g,n,z⟩|⟨o,p,g,n,z⟩
  exact call_list_seq (hsz:=by refine aE Ht ?_;exact jN i) c (.inl rfl) p g z λh' n y t=>Nk I i S q y t
  exact call_list_seq (hsz:=by refine aE Ht ?_;exact jN i) c (.inr rfl) p g z λh' n y t=>Nk I i S q y t
 induction u using V.casesOn with
 |a8 l=>exact Q rfl<|aV d
 |a7 l=>exact Q rfl<|aV d
 |b7 l=>
  change gI (gE l) _=_ at d;cases M:gE l with
  |false=>replace d:=M▸d;exact nn d
  |true=>replace d:=M▸d;replace q:=(aV d).symm▸q;induction r with|mk D _=>exact aDQ U I D M q
 |_=>exact nn d
end
section
variable{w:aW}{f C:aH}{d D:Th}{s H p B:aF}{A:bN}{E:aD->aF->Prop}{x y:aD}{a b v u:V}{i n:Nat}{F:List aD}{l:List V}{R:V->aH->Prop}{c:aM}
theorem ja(I:aJ w f d s)(c:Rv w d s a x)(h:iX 6 a f=aA v)(q:R v f):aL (Md w) A (fK (.builtin "abs") [x]) (Nx w d s R) E s:=by
 obtain⟨u,e,b⟩:=ob h;have r:=lE I c e;induction u using V.casesOn with
 |a5 i=>induction r with|mk t=>exact call_abs_int λu g=> .l8 I (.n6 s _) (aV b▸RI.mk _) q
 |_=>exact nn b
theorem aIV(I:aJ w f d s)(e:Rv w d s a x)(h:iX 7 a f=aA v)(q:R v f):aL (Md w) A (fK (.type "str") [x]) (Nx w d s R) E s:=by
 obtain⟨u,g,b⟩:=ob h;have r:=lE I e g;cases u with
 |a5 i=>
  change gI (nT i) _=_ at b;cases c:nT i with
  |false=>rw[c]at b;exact nn b
  |true=>rw[c]at b;induction r with|mk t=>exact P.str_of_int (MU c)<|.l8 I (.n6 s _) (aV b▸RS.mk _ (VB c)) q
 |_=>exact nn b
theorem hty(t:Nat):QL (Ez t)=bB (.type "type"):=by
 induction t using fO with
 |zero=>rfl
 |succ t=>cases t<;>rfl
theorem aKM{t:Nat}(I:aJ w f d s)(b:Rv w d s a x)(h:YU t a=aA v)(q:R v f):aL (Md w) A (fK (.builtin "isinstance") [x,Ez t]) (Nx w d s R) E s:=by
 cases a with
 |a5 i=>
  induction b with|mk e=>
  induction t using fO with
  |zero=>exact IsiPair.int_int<|.A5 (v:=v) I (aV h▸(rfl:KV aB= .bool aB)) q
  |succ t=>induction t using fO with
   |zero=>exact IsiPair.int_bool<|.l8 (v:=v) I (.n6 s _) (aV h▸(rfl:KV aI= .bool aI)) q
   |succ t=>exact nn h
 |a8 l=>
  rw[qT]at b;induction b with|mk c _ _ _=>
  induction t using fO with
  |zero=>exact nn h
  |succ t=>induction t using fO with
   |zero=>exact nn h
   |succ t=>induction t using fO with
    |zero=>exact call_isinstance_yes c.typeIs (hty 2) PySem.F.sub_tuple_tuple<|.A5 (v:=v) I (aV h▸(rfl:KV aB= .bool aB)) q
    |succ t=>exact nn h
 |_=>exact nn h
theorem lf(Y:A.handled=aC)(I:aJ w f d s)(U:Rv w d s a x)(T:Rv w d s b y)(h:Pd a b=aA v)(q:R v f):aL (Md w) A (fK (.builtin "min") [x,y]) (Nx w d s R) E s:=by
 induction a using V.casesOn with
 |a5 a=>induction b using V.casesOn with
  |a5 b=>
   induction U with|mk t=>induction T with|mk u=>
   have K:v= .a5 (if b<a then b else a):=(aV h).symm;have Q:(s.heap.push {cls:= .type "tuple",data:= .seq #[.int a t,.int b u]}).IsTuple s.heap.objs.size (Du #[(a,t),(b,u)]):=⟨_,kZ _ rfl,rfl,0,by simp[Du]⟩
   have k:(s.heap.push {cls:= .type "tuple",data:= .seq #[.int a t,.int b u]}).objs.size=s.heap.objs.size+1:=lH ..;refine call_min_two (cu Q ⟨_,[_,s.heap.objs.size],[_],_,_,_,_,rfl,Walks.tuple (A:=A.in1) Y _ s.heap.objs.size (by rw[k];exact lU<|jY _) (Du #[(a,t),(b,u)]),
    ⟨⟨_,kZ _ rfl,rfl,rfl⟩,Q.push _⟩,λc L=> ?_,by simp[Du],CmpOf.ints_lt (Dv #[(a,t),(b,u)])<|λX X=>intItems_at,λz M S Z P=> ?_⟩)
   show c<((s.heap.push _).push _).objs.size;rw[lH,k];rcases dA.mp L with e|L
   rw[e,k];exact jY _;rw[dU.mp L];exact zG<|jY _;have N:∀{c:aM},c∈[(s.heap.push {cls:= .type "tuple",data:= .seq #[.int a t,.int b u]}).objs.size]->s.heap.objs.size<c:=λJ=>by rw[dU.mp J,k];exact jY _
   have n:∀c o,s.heap.get? c=aA o->M.get? c=aA o:=λc o e=>P c o (λJ=>aZ (iF e)<|eI.mpr<|dR<|N J)<|fC _<|fC _ e;have r:M.get? s.heap.objs.size=aA {cls:= .type "tuple",data:= .seq #[.int a t,.int b u]}:=P _ _ (λJ=>aZ (N J)<|rH _)<|fC _<|kZ _ rfl;have g:aU s {s with heap:=M,toks:=S}:=⟨n,dR<|iF r,rfl,rfl⟩
   have m:(Du #[(a,t),(b,u)])[QM (λi j=>aQ<|Dv #[(a,t),(b,u)] i<Dv #[(a,t),(b,u)] j) 1]? =aA z:=by rw[show(1:Nat)=(Du #[(a,t),(b,u)]).size-1 by simp[Du]];exact Z
   by_cases l:b<a
   have e:QM (λi j=>aQ<|Dv #[(a,t),(b,u)] i<Dv #[(a,t),(b,u)] j) 1=1:=by simp[QM,Dv,l]
   rw[e]at m;rw[bO l]at K;rw[show z= .int b u by simpa[Du]using m.symm]
   exact .l8 I g (K▸RI.mk u) q;have e:QM (λi j=>aQ<|Dv #[(a,t),(b,u)] i<Dv #[(a,t),(b,u)] j) 1=0:=by simp[QM,Dv,l]
   rw[e]at m;rw[bH l]at K;rw[show z= .int a t by simpa[Du]using m.symm]
   exact .l8 I g (K▸RI.mk t) q
  |_=>exact nn h
 |_=>exact nn h
end
theorem aDH:aQD (.type "list") "keys"=bB aC:=by rw[dq,ds];rfl'
theorem aD0:aQD (.type "list") "__getattr__"=bB aC:=by rw[dq,ds];rfl'
theorem SL:dv table "dict.update.loop"=aA Builtin.«dict.update.loop»:=aUC (by rfl')
theorem Jq:plainId "dict.update.loop"=aB:=by decide+kernel
section
section
variable{F:BK}{w:aW}{A:bN}{E:aD->aF->Prop}{a:aM}{xs:Array aD}{n:Nat}{K:Array (Option aD)}
theorem aBZ(xs:Array aD)(n:Nat)(K:Array (Option aD))(a:aM)(u:Tok):
  Meets (Builtin.«object.__getattribute__» ⟨[.ref a,.str "keys" u],[]⟩) (λA R s=>s.heap.get? a=aA ⟨.type "list",aC,.seq xs n,K⟩/\raisesAttr (.ref a) "keys" A R s):=
 Meets.of_wp λF w A R s b=>by
  obtain⟨i,g,d,c,e⟩:=s;obtain⟨h,b⟩:=b;have j:(⟨i,g,d,c,e⟩:aF).TypeIs (.ref a) "list":=⟨_,h,rfl⟩;have k:=aDH;unfold Builtin.«object.__getattribute__»;repeat(any_goals (first|assumption|wp_step))
  exact wpAny_raiseAttrError b.1 b.2 (attrMsg_fits (by decide+kernel) (by decide))
theorem aMA{s:aF}{Q:Option aD->aF->Prop}(r:A.handled=aC)(c:s.heap.get? a=aA ⟨.type "list",aC,.seq xs n,K⟩)
  (q:∀i h,(∀b o,s.heap.get? b=aA o->i.get? b=aA o)->Q aC {s with heap:=i,toks:=h}):
  aL (model F w) A (getAttr? (.ref a) "keys") Q E s:=by
 obtain⟨m,g,d,h,k⟩:=s;have y:(⟨m,g,d,h,k⟩:aF).TypeIs (.ref a) "list":=⟨_,c,rfl⟩;have M:=sub_AttributeError;have I:=aQ0.lookup;have D:=aQ0.bind<|.ref a;have z:=aD0;unfold getAttr? getAttrBy? getAttrBy;repeat(any_goals (first|assumption|((with_reducible show aL _ _ (fK (aS5 "list.__getattribute__") _ _) _ _ _);refine aQJ aQ0 ⟨_,c,rfl⟩ PySem.F.entry_list_ga (PySem.F.args_list_getattribute_2 _ _) (aBZ xs n K a _) ⟨c,r,λi l e c=> ?_⟩)|wp_step))
 obtain⟨x,v,t⟩:=c.there;have u:∀h g d k,(⟨i,g,d,h,k⟩:aF).TypeIs (.ref e) "AttributeError":=λj j j j=>⟨_,t,rfl⟩;show aL _ _ (aUD _ _ _ _ _ _ _) _ _ _;unfold aUD;repeat(any_goals (first|assumption|wp_step))
 exact q _ _ c.keeps
end
variable{w:aW}{P X:aH}{p J:Th}{s C f U:aF}{A:bN}{E:aD->aF->Prop}{x y:aD}{b c v u:V}{i n:Nat}{Y:List aD}{m B:List V}{R:V->aH->Prop}{H:Sr}{I D:aM}{l:List aM}{acc L:List (V×V)}
inductive rW (w:aW) (p:Th) (s:aF) (D:aM) (acc:List (V×V)):Prop
 |mk {es:List fB} {n:Nat} (g:s.heap.get? D=aA (jB es n)) (d:bL s D es (F2 (Rd w p s) acc) acc)
theorem rW.j4(x:rW w p s D acc)(g:∀o,s.heap.get? D=aA o->C.heap.get? D=aA o)(k:Kp p s J C):rW w J C D acc:=by induction x with|mk h d=>exact .mk (g _ h) (d.kp g k.rd)
theorem aMT{r:List V}(h:yE (v::r) acc=aA L):∃k x,v= .a8 [k,x]/\dY k acc=aB/\yE r (gV k x acc)=aA L:=by
 cases v with
 |a8 m=>induction m using bM with
  |nil=>exact nn h
  |cons k m=>induction m using bM with
   |nil=>exact nn h
   |cons x m=>induction m using bM with
    |nil=>obtain⟨b,a⟩:=rK h;exact⟨k,x,rfl,b,a⟩
    |cons=>exact nn h
 |_=>exact nn h
theorem aE0{N:Nat->Th->aF->Prop}(hh:A.handled=aC)(hA:A.units+80<dO)(It:iY w A.in1 FC H B I l N)(hl:∀a∈l,a∈p.F)(hD:D∈p.F)(hDl:D∉l){T:pJ->aF->Prop}(hlim:B.length<=cF)(hs:lM H B P){r:List V}(hr:B.drop i=r){j:Int}
  (h:yE r acc=aA L) (ha:acc.length<=i) (I0:aJ w P p s) (hn:N i p s) (hd:rW w p s D acc) (q:∀C,bJ (D::l) s C->rW w p C D L->T (.ok (.ret .none)) C):
  lI (Md w) A (.builtin "dict.update.loop" ⟨[.ref D,.ref I,.int j 0,.none],[]⟩) T s:=by
 have hF:∀a∈D::l,a∈p.F:=λa h=>(dA.mp h).elim (λe=>e▸hD)<|hl a;have wid:∀{s C},bJ l s C->bJ (D::l) s C:=λc=>⟨λb o g n=>c.i8 b o g λh=>n<|.tail _ h,c.i9,c.os,c.p8⟩;induction r generalizing i j acc s with
 |nil=>refine zJ SL ?_;refine aE (Dw Jq _) ?_;show aL _ _ (jI (.ref I)>>=_) _ _ s;refine aK<|It.E7 hn hl I0 hs (uW<|QG.mp hr) λf u=>bA<|q _ (wid u)<|aV h▸hd.j4 (λo g=>u.i8 D o g hDl) (u.kp hl)
 |cons v r ih=>
  obtain⟨hv,hr'⟩:=Ot hr;obtain⟨kv,xv,ev,hok,h2⟩:=aMT h;refine zJ SL ?_;refine aE (Dw Jq _) ?_;show aL _ _ (jI (.ref I)>>=_) _ _ s;refine aK<|It.e9 hn hl I0 hs hv λy f u E n₁=> ?_;have I₁:=u.s7 I0 hl;have Z:=hd.j4 (λo g=>u.i8 D o g hDl)<|u.kp hl
  (replace E:=ev▸E;replace E:=qT▸E)
  induction E with| @mk a Y ht _ _ Q=>
  induction Q with| @mk y1 _ r1 Q=>
  induction Q with| @mk y2 _ r2 Q=>
  subst Q;obtain⟨o,ho,hc,n,hdat⟩:=id ht;refine aK<|fV<|aK<|wpAny_tryCatch (m:=aUE<|.ref a) ?_;unfold aUE;refine aK<|AD ht.typeIs ?_;refine aE (bO (by decide)) ?_
  refine aK (zC ho hdat<|bA ?_);show aL _ _ (rI [y1,y2]<|ba D y1 y2) _ _ f;induction Z with| @mk es n g d=>
  refine fV (OP g d r1 r2 hok (fZ (fG (bV rfl:1<=80) _) hA) λt h' es' n' S=>bA ⟨Dx Jq _,?_⟩);have x:=bJ.u9 (t:=t) S.u9;have hD1:∀a∈[D],a∈p.F:=λa h=>qN hD h;have M:=x.kp hD1;have lt:i<B.length:=(iU.mp hv).1;have z:=KA (k:=kv) (v:=xv) (l:=acc);have c12:bJ (D::l) s {f with heap:=h',toks:=t}:=(wid u).j3 ⟨λb o g n=>x.i8 b o g λh=>n<|qN (.head _) h,x.i9,x.os,x.p8⟩
  refine ih hr' h2 (aR z<|gZ ha) (x.s7 I₁ hD1) (It.i8 n₁ M λa h o g=>x.i8 a o g λh'=>hDl<|dU.mp h'▸h) (.mk S.g ⟨⟨_,S.g⟩,d.h3,?_,S.nd,F2.j4 (λq9 q9 q9 h=>⟨M.rv h.k,M.rv h.v,h.h,h.c⟩) S.r⟩) λs₃ c₃ R=>q s₃ (c12.j3 c₃) R;refine aE S.r.f7 ?_;exact aR z<|aR (gZ ha)<|aR lt hlim
end
section
variable{w:aW}{H P:aH}{j F:Th}{s S f B:aF}{A:bN}{E:aD->aF->Prop}{x y:aD}{a b c v u:V}{i n:Nat}{K:List aD}{m:List V}{R:V->aH->Prop}{C:Sr}{I D:aM}{l:List aM}{acc L:List (V×V)}
theorem aAA(h:eK v H=aA (.a7 m)):∃C,tA v H=aA (C,m):=by
 induction v using V.casesOn with
 |a7 l=>exact⟨.h9,by cases h;rfl⟩
 |a9 p=>
  dsimp only[eK]at h;cases a:H[p]? with
  |none=>replace h:=a▸h;exact nn h
  |some o=>replace h:=a▸h;induction o with
   |a7 l=>exact⟨.a7 p,by dsimp only[tA];refine aE a ?_;cases h;rfl⟩
   |_=>cases h
 |_=>cases h
theorem zg(hh:A.handled=aC)(hA:A.units+100<dO)(I0:aJ w H j s)(ra:Rv w j s a x)(h1:eK a H=aA (.a7 m))(h:yE m []=aA L)(q:R (.b7 L) H):aL (Md w) A (fK (.type "dict") [x]) (Nx w j s R) E s:=by
 obtain⟨C,hi⟩:=aAA h1;have r:=lE I0 ra h1;induction r with| @mk c K ht _ hl hs=>
 induction ht with| @mk o n ho hc hd hdn=>
 have U:o=⟨.type "list",aC,.seq K.toArray n,o.slots⟩:=by obtain⟨a,b,c,d⟩:=o;subst hc;subst hd;subst hdn;rfl
 refine callType_codes (Q₁:=λobj f=>obj= .ref s.heap.objs.size/\f={s with heap:=s.heap.push {cls:= .type "dict",data:= .dict #[]}}) PySem.F.kt_called_dict (PySem.F.kt_typeCall_dict_1 _) PySem.F.entry_dict_init (kt_code_dict_new _ ⟨rfl,rfl⟩) ?_
 rintro obj f ⟨e1,k⟩;refine aE e1 ?_;have g1:aU s f:=by refine aE k ?_;exact aU.u4 s _ s.toks
 have D:f.heap.get? s.heap.objs.size=aA (jB [] 0):=by refine aE k ?_;exact kZ _ rfl
 have hT:f.TypeIs (.ref s.heap.objs.size) "dict":=⟨_,D,rfl⟩;refine⟨hT,PySem.F.args_dict_init_2 _ _,?_⟩;unfold Builtin.«dict.__init__»;refine aK ?_;unfold aWZ;refine aK<|aQB hT ?_;show aL _ _ (bB (s.heap.objs.size,[tJ c])) _ _ _;refine bA ?_;show aL _ _ (aUF "dict.__init__" s.heap.objs.size (.ref c) [] .none) _ _ _;unfold aUF;have ho1:f.heap.get? c=aA o:=g1.i8 _ _ ho;refine aK<|AD (T:= "list") ⟨o,ho1,hc⟩ ?_;refine aE (bO (by decide)) ?_
 refine aK (aMA hh (U▸ho1) λh' tk hk=> ?_);have p:h'.get? s.heap.objs.size=aA (jB [] 0):=hk _ _ D;have zz:f.heap.objs.size<=h'.objs.size:=by refine aE k ?_;exact aR (bW<|lH ..)<|iF p
 have v:aU s {f with heap:=h',toks:=tk}:=g1.j3 ⟨hk,zz,rfl,rfl⟩
 have u:({f with heap:=h',toks:=tk}:aF).heap.get? s.heap.objs.size=aA (jB [] 0):=p
 generalize({f with heap:=h',toks:=tk}:aF)=B at v u⊢
 refine aE (bO (show(aC:Option aD).isNone=aB from rfl)) ?_;refine aK<|BN ?_;have lo:∀a∈[s.heap.objs.size],s.heap.objs.size<=a:=λa h=>bW (dU.mp h).symm;have M:=I0.y8 v lo λa h=>dU.mp h▸iF u;have Z:=(wI v lo).rv ra;refine aK<|Py (A:=A.in1.in1) (t:=FC) hh M Z hi λz X at_ st=>bA ⟨Dx Jq _,?_⟩;induction at_ with| @mk J l N X It hn g3 Q hi3=>
 have I:=M.y8 g3 Q hi3;have hDl:s.heap.objs.size∉l:=λh=>aZ (iF u)<|eI.mpr<|Q _ h;have hl3:∀a∈l,a∈((j.j5 [s.heap.objs.size]).j5 l).F:=λa h=>rG _ h;have hD3:s.heap.objs.size∈((j.j5 [s.heap.objs.size]).j5 l).F:=kM _<|.head _;have F3:=I0.o8<|bT s.heap.objs.size;refine aE0 (A:=A.in1) (i:=0) (r:=m) (acc:=[]) hh (fZ (by show A.units+1+80<=A.units+100;rw[kX];exact fG (by decide) _) hA) It hl3 hD3 hDl (hs.f7▸hl) st rfl h (bT _) I hn (.mk (es:=[]) (g3.i8 _ _ u) ⟨⟨0,g3.i8 _ _ u⟩,F3.k.2,eO _,.nil,rfl⟩) λy ch hd=>⟨rfl,?_⟩
 have hF:∀a∈s.heap.objs.size::l,a∈((j.j5 [s.heap.objs.size]).j5 l).F:=λa h=>(dA.mp h).elim (λe=>e▸hD3)<|hl3 a;have Y:∀a∈j.F,a∈((j.j5 [s.heap.objs.size]).j5 l).F:=λa h=>kM _<|.tail _ h;have G1:Gd [s.heap.objs.size] (j.j5 [s.heap.objs.size]) B (j.j5 [s.heap.objs.size]) y:=Gd.H6 (θ':=(j.j5 [s.heap.objs.size]).j5 l) g3 Q ch.gd λa h=>(dA.mp h).elim (λe=> .inr (e▸ .head _)) .inl;have G2:Gd [] j s j y:=Gd.H6 (θ':=j.j5 [s.heap.objs.size]) v lo G1 λa h=> .inl h;induction hd with|mk g d=>
 exact .mk (D:=j) ((ch.s7 I hF).D8 Y) G2 (uK▸RD.mk (d.kp (λq9 h=>h) (Aa Y).rd) F3.n) q
end
section
variable{w:aW}{z I:aH}{j J:Th}{s K C H:aF}{A:bN}{E:aD->aF->Prop}{x y:aD}{a b c v u:V}{i n:Nat}{R:V->aH->Prop}{D:aM}{l:List (V×V)}{B f:List fB}
theorem aGZ(r:F2 (Rk w j s) l B)(p:aS3 (Sk w) f (B.map vE))(h:∀e∈f,∃k,(Sk w).is k e.key=aB/\e.hash=(Sk w).hash k):F2 (Rd w j s) l f:=by
 induction l generalizing B f with
 |nil=>subst r;cases p;exact rfl
 |cons q l v=>
  induction r with| @mk e B a g=>
  cases p with| @cons y _ f _ n m i=>
  refine .mk ?_ (v g i λe x=>h e<|.tail _ x);obtain⟨t,d⟩:=Ka n;obtain⟨k,u,o⟩:=h y<|.head _;obtain⟨A,c⟩:=Ka u;have b:k=qV e.key:=(Value.str.inj<|c.symm.trans d).1;refine⟨?_,?_,?_,?_⟩
  ·(refine aE a.k ?_;refine aE d ?_);exact RS.mk t a.l
  refine aE m ?_;exact a.v
  ·(refine aE o ?_;refine aE b ?_;refine aE a.k ?_);rfl
  refine aE a.k ?_;rfl
theorem wt(p:aJ w z j s)(L:Rv w j s a x)(S:eK a z=aA (.b7 l))(h:gE l=aB)(q:R (.b7 l) z):aL (Md w) A (fK (.type "dict") [x]) (Nx w j s R) E s:=by
 have r:RD No s (F2 (Rd w j s) l) l x:=lE p L S;induction r with| @mk c B d _=>
 refine kt_call_dict (knd:=Sk w) (wH d.h3) (DM d h) (by rw[bP];exact jN d.hl) λt Q i=> ?_
 have g:aU s {s with heap:=t}:=⟨λa o g=>i.extBut a o (lU<|iF g)<|fC _ g,by show _<=t.objs.size;refine aE i.1 ?_;exact DK<|bT _,rfl,rfl⟩
 obtain⟨o,f,u,m,⟨D,y,v⟩,k,n,M,N⟩:=Q;have e:o=jB f.toList u:=by obtain⟨a,b,c,d⟩:=o;subst D;subst y;subst v;subst k;rfl
 have R:=aGZ (CR d.hs h) M λe P=>n e<|yV.mp P;have F:=p.o8<|bT s.heap.objs.size;exact .l8 p g (uK▸RD.mk ⟨⟨u,e▸m⟩,F.k.2,by(refine aE R.f7 ?_;refine eJ d.hs.f7 ?_);exact d.hl,d.nd,g.kp.rd R⟩ F.n) q
theorem aBX(k:A.handled=aC)(n:A.units+100<dO)(i:aJ w z j s)(d:Rv w j s a x)(h:iX 3 a z=aA v)(q:R v z):aL (Md w) A (fK (.type "dict") [x]) (Nx w j s R) E s:=by
 obtain⟨u,g,b⟩:=ob h;cases u with
 |b7 l=>
  change gI (gE l) _=_ at b;cases c:gE l with
  |false=>replace b:=c▸b;exact nn b
  |true=>replace b:=c▸b;replace q:=(aV b).symm▸q;exact wt i d g c q
 |a7 m=>obtain⟨p,o,e⟩:=om b;replace q:=(e).symm▸q;exact zg k n i d g o q
 |_=>exact nn b
end
section
structure oT(w:aW):Prop where
 H7:∀{A:bN} {i:Th} {s:aF} {j:aH} {a v:V} {x:aD} {R:V->aH->Prop} {E:aD->aF->Prop},A.handled=aC->A.units+300<dO->A.depth+1<Li->aJ w j i s->Rv w i s a x->iX 1 a j=aA v->R v j->aL (Md w) A (fK (.builtin "sorted") [x]) (Nx w i s R) E s
 b9:∀{A:bN} {i:Th} {s:aF} {j:aH} {a v:V} {x:aD} {R:V->aH->Prop} {E E':aD->aF->Prop},A.handled=aC->A.units+300<dO->A.depth+1<Li->aJ w j i s->Rv w i s a x->iX 2 a j=aA v->R v j->
  aL (Md w) A (fK (.type "set") [x]) (λy l=>aL (Md w) A (fK (.builtin "sorted") [y]) (Nx w i s R) E l) E' s
variable{C:cR}{w:aW}{j J:aH}{i N:Th}{s U l H:aF}{A:bN}{E:aD->aF->Prop}{x y:aD}{a v u:V}{b f d:Nat}{z:cP}{L:Lc}{F:List aM}{o:dH}{k:Co}{K:PF}{t D:List V}{c:aT->Co->Co}{r:aX}{p B:cY}{g P:List aT}{m:Bool}
theorem Ar.H7(h:Ar d A):A.units+300<dO/\A.depth+1<Li:=⟨fZ (Dy (dI _ _) _) h.C0,fZ (Dy (dI _ _) _) h.D9⟩
theorem aH5(S:oT w)(Q:Ar d A)(T:iG b Oh=aA f)(I:aJ w j i s)(u:Rv w i s a x)(h:iX f a j=aA v)(q:aS C (mu (bZ f 5&&m) k) K (v::t) L j):aL (Md w) A (fK (oS b) [x]) (Nx w i s<|Rn C k K t L) E s:=by
 have y:=Q.v8;obtain⟨M,R⟩:=Q.H7;rcases dA.mp (xJ T)with e|p
 ·(injection e with c n;subst c;subst n);exact aLT I u h q
 rcases dA.mp p with e|p
 ·(injection e with c n;subst c;subst n);exact S.H7 y M R I u h q
 rcases dA.mp p with e|p
 ·(injection e with c n;subst c;subst n);exact aBX y (um M) I u h q
 rcases dA.mp p with e|p
 ·(injection e with c n;subst c;subst n);exact aJ5 I u h q
 rcases dA.mp p with e|p
 ·(injection e with c n;subst c;subst n);exact io y I u h q
 rcases dA.mp p with e|p
 ·(injection e with c n;subst c;subst n);exact ja I u h q
 cases dU.mp p;exact aIV I u h q
theorem aNR(S:oT w)(hA:Ar d A)(hE:eV C w A z c)(Y:sP z r=aB)(hb:rX (key r) oY=aA (.bi b))(Z:iG b Oh=aA f)(h:aS C (hM (bZ g.length 1)<|kD c g<|.p1 f (mu (bZ f 5&&m) k)) K t L j)(I0:aJ w j i s)(R:aO w F i s z L o):
  aL (Md w) A (dJ (.Call (.Name r p) g [] B) o) (Nx w i s<|Rn C k K t L) E s:=by
 obtain⟨h1,h⟩:=iS h;refine GU hE Y hb h I0 R λxs l D I M x y a u=> ?_;obtain⟨v,ev⟩:=Nw<|u.1.trans<|iQ h1;have q:=u.2;rw[ev]at a q;induction q with|of X q=>
 induction a with| @mk x1 _ T a=>
 rw[show _=[]from a];exact dP (aH5 S hA Z x T X q) (λQ Q n=>n.tr y) λQ Q e=>e
theorem wu(Z:Ar d A)(Y:eV C w A z c)(T:sP z r=aB)(X:rX (key r) oY=aA (.bi 8))(h:aS C (hM (bZ g.length 2)<|kD c g<|.I3 k) K t L j)(I0:aJ w j i s)(R:aO w F i s z L o):
  aL (Md w) A (dJ (.Call (.Name r p) g [] B) o) (Nx w i s<|Rn C k K t L) E s:=by
 obtain⟨h1,h⟩:=iS h;refine GU Y T X h I0 R λxs l D x y m q a f=> ?_;obtain⟨u,v,ev⟩:=Pc<|f.1.trans<|iQ h1;have b:=f.2;rw[ev]at a b;induction b with|of S b=>
 induction a with| @mk x1 _ Q a=>
 induction a with| @mk x2 _ M a=>
 rw[show _=[]from a];exact dP (lf Z.v8 m Q M S b) (λI I n=>n.tr q) λI I e=>e
end
section
variable{C:cR}{w:aW}{P Y:aH}{B Z:Th}{s z j I:aF}{A:bN}{E:aD->aF->Prop}{y:aT}{x:aT}{a v u:V}{b f d t:Nat}{F:cP}{L:Lc}{U:List aM}{i:dH}{k:Co}{K:PF}{J X:List V}{c:aT->Co->Co}{N:aX}{p D:cY}{o g:List aT}{m:Bool}
theorem aC2(h:Zq F y=aA t)(r:aJ w P B s)(R:aO w U B s F L i){Q:aD->aF->Prop}(q:Q (Ez t) s):aL (Md w) A (dJ y i) Q E s:=by
 obtain⟨n,_,h⟩:=ob h;obtain⟨l,h⟩:=rK h;obtain⟨a,p,c⟩:=ob h;refine aE n.2 ?_;obtain⟨f,d⟩:=Kl l;refine Fq R r f d p λx e=> ?_;induction a with
 |ty k=>(refine aE (show x=Ez k from e) ?_;refine aE (aV c) ?_);exact q
 |bi b=>
  obtain⟨m,c⟩:=rK c
  (refine aE (show x=oS b from e) ?_;refine aE (iQ m) ?_)
  replace q:=(aV c).symm▸q;exact q
 |_=>exact nn c
theorem aN5(hE:eV C w A F c)(hg:sP F N=aB)(hb:rX (key N) oY=aA (.bi 7))(h:aS C (Yw c F k o) K J L P)(M:aJ w P B s)(R:aO w U B s F L i):
  aL (Md w) A (dJ (.Call (.Name N p) o [] D) i) (Nx w B s<|Rn C k K J L) E s:=by
 induction o using bM with
 |nil=>exact h.elim
 |cons x r=>induction r using bM with
  |nil=>exact h.elim
  |cons y r=>induction r using bM with
   |cons=>exact h.elim
   |nil=>
    refine el h (λt ht h=> ?_) λh=>h.elim;obtain⟨h1,h⟩:=iS h;obtain⟨T,S⟩:=bI h1;have Q:=yF (j:=i) (a:=[y]) T;refine JA hg hb (by(refine aE Dn ?_;refine aE Dn ?_;refine aE T ?_;refine aE S ?_);rfl) M R ?_
    have H:aL (Md w) A (Qx<|uV D<|sI [x,y] i) (λxs j=>aL (Md w) A (fK (oS 7) xs) (Nx w B s<|Rn C k K J L) E j) E s:=by
     refine Qy (Nx.go (hE h M R) λa j v m q d f l b=>Qy (aC2 ht d (R.gd M f)<|bv ?_) (yF S).s) Q.s;induction b with|of hi b=>
     exact dP (aKM d l hi b) (λu u n=>n.tr f) λu u e=>e
    rw[Q.s]at H⊢;exact dg H
theorem ZA{c:Type}{l:List c}{a:c}(h:Pq l=aA a):l=[a]:=by
 induction l using bM with
 |nil=>exact nn h
 |cons b r=>induction r using bM with
  |nil=>exact aE (show b=a from aV h) rfl
  |cons=>exact nn h
theorem qk(S:oT w)(hA:Ar d A)(hE:eV C w A F c)(hg:sP F N=aB)(hb:rX (key N) oY=aA (.bi 2)){q:aT×cY×cY×aX}(hq:Wq F o=aA q)(h:aS C (hM (oP q.1)<|c q.1<|.p1 2 k) K J L P)(I0:aJ w P B s)(R:aO w U B s F L i):
  aL (Md w) A (dJ (.Call (.Name N p) o [] D) i) (Nx w B s<|Rn C k K J L) E s:=by
 obtain⟨e,h1,h2⟩:=ob hq;obtain⟨T,_,h3⟩:=ob h2;obtain⟨Q,h4⟩:=rK h3;obtain⟨Q,hn⟩:=bI Q;obtain⟨hk,M⟩:=bI Q;obtain⟨y,h5,h6⟩:=om h4;obtain⟨x,h⟩:=iS h;rw[←h6]at h x;refine aE (ZA h1) ?_;have n1:=yF (j:=i) (a:=[]) hn;refine JA hg hb (by(refine aE Dn ?_;refine aE hn ?_);rfl) I0 R ?_
 have gs:rX (key T.1.1.1) oY=aA (.bi 6):=by refine aE (iQ hk) ?_;rfl
 have H:aL (Md w) A (Qx<|uV D<|sI [e] i) (λxs j=>aL (Md w) A (fK (oS 2) xs) (Nx w B s<|Rn C k K J L) E j) E s:=by
  refine Qy ?_ n1.s
  (refine aE T.2 ?_;refine aE (ZA h5) ?_)
  have n2:=yF (j:=i) (a:=[]) x;refine JA M gs (by(refine aE Dn ?_;refine aE x ?_);rfl) I0 R ?_
  have H2:aL (Md w) A (Qx<|uV T.1.2.2<|sI [y] i) (λxs j=>aL (Md w) A (fK (oS 6) xs) (λv j=>aL (Md w) A (Qx<|uV D<|sI [] i) (λX I=>aL (Md w) A (fK (oS 2) (v::X)) (Nx w B s<|Rn C k K J L) E I) E j) E j) E s:=by
   refine Qy (Nx.go (hE h I0 R) λa j v t u m r l b=>bv ?_) n2.s;induction b with|of hi b=>
   obtain⟨u1,u2⟩:=hA.H7;exact dP (S.b9 (E:=E) hA.v8 u1 u2 m l hi b) (λf f n=>bv<|dP n (λf f n=>n.tr r) λf f e=>e) λf f e=>e
  rw[n2.s]at H2⊢;exact dg H2
 rw[n1.s]at H⊢;exact dg H
end
section
structure nQ(d:Nat)(A:bN):Prop where
 v8:A.handled=aC
 D9:A.depth+3*d<Li
 C0:A.units+150*d+290<dO
theorem Ar.j9{d:Nat}{A:bN}(h:Ar d A):nQ d A:=⟨h.v8,oN h.D9,fZ (fG (by decide) _) h.C0⟩
noncomputable def sE(C:cR)(w:aW)(d:Nat):Prop:=∀{g:Nat} {a:List V} {j:aH} {R:V->aH->Prop} {z:Th} {s:aF} {A:bN} {T:pJ->aF->Prop} {xs:List aD},C g a j R->(iG g qO).isSome=aB->nQ d A->aJ w j z s->Rl w z s a xs->
 (∀x B,Nx w z s R x B->T (.ok (.ret x)) B)->lI (Md w) A (.call (.ref (fA g)) ⟨xs,[]⟩) T s
theorem aBL:HQ.all (λp=>p.2.all λq=>(iG q.2 qO).isSome&& !(rP p.1 q.1))=aB:=by decide+kernel
theorem Yv:oY.all (λp=>match p.2 with| .fn g=>(iG g qO).isSome| .s5 c=>(iG c Ai).isSome|_=>aB)=aB:=by decide+kernel
theorem XC{c m a:Nat}(h:tC c m=aA a):(iG a qO).isSome=aB:=by
 unfold tC at h;cases e:iG c HQ with
 |none=>replace h:=e▸h;exact nn h
 |some l=>replace h:=e▸h;exact(bI<|cX.mp (cX.mp aBL _<|xJ e) _<|xJ h).1
variable{C:cR}{w:aW}{j J:aH}{z K:Th}{s B F H:aF}{A:bN}{E:aD->aF->Prop}{x y:aD}{a v u:V}{b f d t:Nat}{i:aX}{R:V->aH->Prop}
theorem aOG{k:Nat}(a:fX i=aB)(h:bZ (key i) k=aB):i=kP k:=by exact aE (Ak a) (aE (iQ h) rfl)
def zN:V->aD
 | .a5 (.ofNat f)=> .ref (fA f)
 | .a5 (.negSucc n)=> .builtin (match n with|0=> "list.append"|1=> "list.extend"|2=> "list.pop"|3=> "list.remove"|_=> "dict.get")
 |_=> .none
theorem CY{k:Nat}{t:aX}(a:fX i=aB)(h:bZ (key i) k=aB)(e:kP k=t):i=t:=(aOG a h).trans e
theorem ZD{c:aM}{l:List fB}{n:Nat}(k:fX i=aB)(g:s.heap.get? c=aA (jB l n))(h:gI (bZ (key i) 3797748) (V.a5<|.negSucc 4)=aA v){f:eC Bool}{Q:aD×List aD->aF->Prop}(q:Q (zN v,[.ref c]) s):aL (Md w) A (bu (.ref c) i f) Q E s:=by
 cases b:bZ (key i) 3797748 with
 |false=>replace h:=b▸h;exact nn h
 |true=>
  replace h:=b▸h;replace q:=(aV h).symm▸q;refine aE (CY k b (t:= "get") (by rfl')) ?_
  exact QN ⟨_,g,rfl⟩ PySem.F.plainAttrs_dict aS6 PySem.F.type_dict_get (λa e=>by(injection e with d;subst d);exact⟨_,g,rfl⟩) q
theorem aPL{c:aM}{r:List aD}{n:Nat}(b:fX i=aB)(g:s.heap.get? c=aA (Hk r.toArray n))(h:DQ (key i)=aA v){x:eC Bool}{Q:aD×List aD->aF->Prop}(q:Q (zN v,[.ref c]) s):aL (Md w) A (bu (.ref c) i x) Q E s:=by
 have f:s.TypeIs (.ref c) "list":=⟨_,g,rfl⟩;have d:∀a,tJ c= .ref a->∃o,s.heap.get? a=aA o/\o.dict=aC:=λa e=>by(injection e with u;subst u);exact⟨_,g,rfl⟩
 unfold DQ at h;cases p:bZ (key i) 7761242453860 with
 |true=>
  replace h:=p▸h;replace q:=(aV h).symm▸q;refine aE (CY b p (t:= "append") (by rfl')) ?_
  exact QN f dw PySem.F.slot_list_append PySem.F.type_list_append d q
 |false=>
  replace h:=p▸h;cases m:bZ (key i) 7900837279588 with
  |true=>
   replace h:=m▸h;replace q:=(aV h).symm▸q;refine aE (CY b m (t:= "extend") (by rfl')) ?_
   exact QN f dw aTG PySem.F.type_list_extend d q
  |false=>
   replace h:=m▸h;cases l:bZ (key i) 3946480 with
   |true=>
    replace h:=l▸h;replace q:=(aV h).symm▸q;refine aE (CY b l (t:= "pop") (by rfl')) ?_
    exact QN f dw aTI PySem.F.type_list_pop d q
   |false=>
    replace h:=l▸h;cases k:bZ (key i) 8342399089509 with
    |true=>
     replace h:=k▸h;replace q:=(aV h).symm▸q;refine aE (CY b k (t:= "remove") (by rfl')) ?_
     exact QN f dw aTK PySem.F.type_list_remove d q
    |false=>replace h:=k▸h;exact nn h
theorem aLE(I:aJ w j z s)(f:fX i=aB)(d:Rv w z s a x)(h:vN (key i) a j=aA v){k:eC Bool}{Q:aD×List aD->aF->Prop}(q:Q (zN v,[x]) s):aL (Md w) A (bu x i k) Q E s:=by
 cases a with
 |a9 p=>
  dsimp only[vN]at h;cases b:j[p]? with
  |none=>replace h:=b▸h;exact nn h
  |some o=>
   replace h:=b▸h;induction o using O.casesOn with
   |a7 l=>have r:=DH I b d;induction r with|mk _ _ g _ _=>exact aPL f g h q
   |b7 l=>obtain⟨u,C,n,_,e,_,g,_⟩:=Iv I b d;rw[e]at q⊢;exact ZD f g h q
   |g9 c y=>obtain⟨t,m,e⟩:=om h;replace q:=(e).symm▸q;exact aFS I b d f m q
 |b7 l=>have r:=uK▸d;induction r with|mk D _=>obtain⟨n,g⟩:=D.g;exact ZD f g h q
 |_=>exact nn h
end
section
variable{C:cR}{w:aW}{n g:aH}{j J:Th}{s L F H:aF}{A:bN}{E:aD->aF->Prop}{x y:aD}{a v u:V}{b f d t:Nat}{K:aX}{R:V->aH->Prop}{B l:List V}{xs:List aD}
theorem tx{m:List (V×V)}{c:aM}{o:List fB}(D:bL s c o (F2 (Rd w j s) m) m)(i:A.units+1<dO)(I:aJ w n j s)(a:Rl w j s B xs)(h:Ir m B n=aA (v,g))(q:R v g):aL (Md w) A (fK (.builtin "dict.get") (.ref c::xs)) (Nx w j s R) E s:=by
 induction B using bM with
 |nil=>exact nn h
 |cons k B=>induction B using bM with
  |nil=>exact nn h
  |cons d B=>induction B using bM with
   |cons=>exact nn h
   |nil=>
    obtain⟨l,h⟩:=rK h;induction a with| @mk x _ f a=>
    induction a with| @mk u _ e a=>
    refine aE (show _=[]from a) ?_;have r:(dF k m).getD d=v:=aN Lh<|aV h;have p:n=g:=aN Prod.snd<|aV h
    (replace q:=(p).symm▸q;replace q:=(r).symm▸q)
    exact jd D f e l i λt z b=> .l8 I (.n6 s t) ((aU.n6 s t).kp.rv b) q
theorem kj{p:Nat}(k:n[p]? =aA (.a7 l))(I:aJ w n j s)(c:Rv w j s (.a9 p) x)(b:Rv w j s a y)(h:Il f p l a n=aA (v,g))(q:R v g):aL (Md w) A (fK (zN<|.a5 (.negSucc f)) [x,y]) (Nx w j s R) E s:=by
 have d:∀{o:V×aH},aA o=aA (v,g)->R o.1 o.2:=λe=>by refine aE (aV e) ?_;exact q
 induction f using fO with
 |zero=>
  change(match aQ (l.length<cF)with|true=>aA (V.h9,n.set p<|.a7 (l++[a]))|false=>aC)=_ at h
  obtain⟨m,h⟩:=rK h;exact yj I k c b (bQ m)<|d h
 |succ f=>induction f using fO with
  |zero=>obtain⟨r,m,h⟩:=ob h;obtain⟨D,h⟩:=rK h;exact aBC I k c b m (bQ D)<|d h
  |succ f=>induction f using fO with
   |zero=>
    induction a using V.casesOn with
    |a5 i=>induction i with
     |ofNat i=>obtain⟨z,u,h⟩:=om h;induction b with|mk t=>exact aO6 I k c u<|d<|aN aA h
     |negSucc i=>exact nn h
    |_=>exact nn h
   |succ f=>induction f using fO with
    |zero=>obtain⟨r,C,h⟩:=om h;exact jg I k c b C<|d<|aN aA h
    |succ f=>exact nn h
end
section
variable{C:cR}{w:aW}{g z:aH}{j K:Th}{s J F H:aF}{A:bN}{E:aD->aF->Prop}{x y:aD}{a v u:V}{b f d t:Nat}{N:aX}{R:PR}{i l B:List V}{xs:List aD}{L:Lc}
theorem nQ.y9(h:nQ d A):A.units+60<dO:=fZ (iR (dI _ _)<|bV rfl) h.C0
noncomputable abbrev GL(v:V):Prop:=(∃n,v= .a5 (.negSucc n))\/∃f,v= .a5 (.ofNat f)/\(iG f qO).isSome=aB
theorem aJ1{m:Nat}(h:DQ m=aA v):GL v:=by
 unfold DQ at h;cases d:bZ m 7761242453860 with
 |true=>replace h:=d▸h;exact .inl ⟨_,(aV h).symm⟩
 |false=>replace h:=d▸h;cases c:bZ m 7900837279588 with
  |true=>replace h:=c▸h;exact .inl ⟨_,(aV h).symm⟩
  |false=>replace h:=c▸h;cases b:bZ m 3946480 with
   |true=>replace h:=b▸h;exact .inl ⟨_,(aV h).symm⟩
   |false=>replace h:=b▸h;cases a:bZ m 8342399089509 with
    |true=>replace h:=a▸h;exact .inl ⟨_,(aV h).symm⟩
    |false=>replace h:=a▸h;exact nn h
theorem UP{p:Bool}(h:gI p (V.a5<|.negSucc 4)=aA v):GL v:=by
 induction p using eT with
 |true=>exact .inl ⟨_,(aV h).symm⟩
 |false=>exact nn h
theorem aGR{m:Nat}(h:vN m a g=aA v):GL v:=by
 cases a with
 |a9 p=>
  dsimp only[vN]at h;cases d:g[p]? with
  |none=>replace h:=d▸h;exact nn h
  |some o=>
   replace h:=d▸h;induction o using O.casesOn with
   |a7 l=>exact aJ1 h
   |b7 l=>exact UP h
   |g9 c k=>obtain⟨b,f,e⟩:=om h;exact .inr ⟨b,e.symm,XC f⟩
 |b7 l=>exact UP h
 |_=>exact nn h
def NG(f:Nat)(o:V)(i:List V)(g:aH):Option (V×aH):=match o with
 | .a9 p=>(match g[p]? with
  |some (.a7 l)=>(match i with|[x]=>Il f p l x g|_=>aC)
  |_=>aC)
 |_=>aC
theorem iq{o:V}(a:f≠4):yP f o i g=NG f o i g:=by
 match f,a with
 |0,_=>rfl
 |1,_=>rfl
 |2,_=>rfl
 |3,_=>rfl
 |n+5,_=>rfl
theorem lmL{o:V}(I:aJ w g j s)(d:Rv w j s o x)(b:Rl w j s i xs)(h:NG f o i g=aA (v,z)){R:V->aH->Prop}(q:R v z):
  aL (Md w) A (fK (zN<|.a5 (.negSucc f)) (x::xs)) (Nx w j s R) E s:=by
 cases o with
 |a9 p=>
  dsimp only[NG]at h;cases c:g[p]? with
  |none=>replace h:=c▸h;exact nn h
  |some o=>
   replace h:=c▸h;induction o with
   |a7 l=>induction i using bM with
    |nil=>exact nn h
    |cons a i=>induction i using bM with
     |cons=>exact nn h
     |nil=>
      induction b with| @mk k _ e b=>
      refine aE (show _=[]from b) ?_;exact kj c I d e h q
   |_=>exact nn h
 |_=>exact nn h
theorem aER(t:sE C w d)(m:nQ d A)(I:aJ w g j s){o:V}(c:Rv w j s o x)(b:Rl w j s i xs)(p:GL v)(h:Tx C v o i R B L g):aL (Md w) A (fK (zN v) (x::xs)) (Nx w j s λv=>R (v::B) L) E s:=by
 rcases p with⟨f,e⟩|⟨f,e,a⟩
 ·rw[e]at h⊢;clear e;induction h with|of h q=>
  by_cases a:f=4
  rw[a]at h⊢;change(match eK o g with|some (.b7 l)=>Ir l i g|_=>aC)=_ at h
  cases k:eK o g with
  |none=>replace h:=k▸h;exact nn h
  |some u=>
   replace h:=k▸h;induction u using V.casesOn with
   |b7 l=>have r:RD No s (F2 (Rd w j s) l) l x:=lE I c k;induction r with|mk D _=>exact tx D (um m.y9) I b h q
   |_=>exact nn h
  replace h:=(iq a)▸h;exact lmL I c b h (R:=λv=>R (v::B) L) q
 rw[e]at h⊢;exact QO<|t (R:=λv=>R (v::B) L) h a m I (.mk c b) λx J n=>n
end
section
variable{C:cR}{w:aW}{I S:aH}{r P:Th}{s U i J:aF}{A:bN}{E:aD->aF->Prop}{x y:aD}{a v u:V}{f d t g:Nat}{X H:aX}{R:PR}{D l o:List V}{xs:List aD}{L:Lc}{F:cP}{N:List aM}{j:dH}{k:Co}{K:PF}{c:aT->Co->Co}{p B:cY}{b Y:List aT}
theorem Pr{l:List (Nat×aM)}(h:∀p∈l,Dg (KK w) (.ref p.2)=aB)(d:(iG g l).isSome=aB):Dg (KK w) (.ref ((iG g l).getD 0))=aB:=by obtain⟨a,c⟩:=wR.mp d;refine aE c ?_;exact h _<|xJ c
theorem MG{a:aM}(n:Dg (KK w) (.ref a)=aB){first:List aD}{Q:aD->aF->Prop}(p:eV C w A F c)(h:aS C (kD c b k) K o L I)(t:aJ w I r s)(R:aO w N r s F L j)
  (q:∀xs i D e d,aJ w e d i->Gd [] r s d i->Rl w d i D xs->pC b.length (λo=>aS C k K o L) o D e->aL (Md w) A (fK (.ref a)<|first++xs) Q E i):aL (Md w) A (dx B (.ref a) first (uV B<|sI b j) []) Q E s:=
 callWith_of (by refine aE (Gy (xV h).n) ?_;rfl) (keeps_K n) (JZ p h t R λxs i D e d f m g l=>⟨f.X,q xs i D e d f m g l⟩)
theorem jv(Q:sE C w d)(T:Ar d A)(M:eV C w A F c)(z:sP F H=aB)(v:rX (key H) oY=aA (.fn g))(h:aS C (kD c b<|.j9 g b.length k) K o L I)(y:aJ w I r s)(R:aO w N r s F L j):
  aL (Md w) A (dJ (.Call (.Name H p) b [] B) j) (Nx w r s<|Rn C k K o L) E s:=by
 obtain⟨h1,Z⟩:=Kl z;have u:(iG g qO).isSome=aB:=cX.mp Yv _<|xJ v;rw[aQU];refine aK<|Fq R y h1 Z v λfv e=> ?_;rw[show fv= .ref (fA g)from e];exact MG (Pr (λp h=>((xT w).fn p h).2) u) M h y R λxs i D q t l m a f=>QO<|Q (R:=Rn C k K o L) (f.w8 rfl) u T.j9 l a λx U n=>n.tr m
theorem aB4{f:Nat}(hC:sE C w d)(hA:Ar d A)(hE:eV C w A F c)(hg:sP F H=aB)(hf:rX (key H) oY=aA (.s5 f))(h:aS C (kD c b<|.u0 f b.length k) K o L I)(I0:aJ w I r s)(R:aO w N r s F L j):
  aL (Md w) A (dJ (.Call (.Name H p) b [] B) j) (Nx w r s<|Rn C k K o L) E s:=by
 obtain⟨h1,h2⟩:=Kl hg;have ok:(iG f Ai).isSome=aB:=cX.mp Yv _<|xJ hf;rw[aQU];refine aK<|Fq R I0 h1 h2 hf λfv e=> ?_;rw[show fv= .ref (fY f)from e];refine MG (Pr (λp h=>((xT w).s5 p h).2) ok) hE h I0 R λxs i D a θ₁ Z G₁ y M=> ?_;have q:Gn C f D (aS C k K) o L a:=M.w8 rfl;dsimp only[Gn]at q;cases hm:tC f 125959291554050015 with
 |none=>replace q:=hm▸q;exact q.elim
 |some fid=>
  replace q:=hm▸q;refine QO<|jc Z ok hm λx θ₂ J T t g=> ?_;have hA2:nQ d (A.under<|.builtin "type.__call__" ⟨.ref (fY f)::xs,[]⟩):=by refine⟨hA.v8,?_,?_⟩;show A.depth+1+3*d<Li;rw[BY];exact hA.D9;have hu:(aUG "type.__call__" ⟨.ref (fY f)::xs,[]⟩).cUnits=1:=rfl;show A.units+(aUG "type.__call__" ⟨.ref (fY f)::xs,[]⟩).cUnits+150*d+290<dO;rw[hu,BY A.units 1,kX _ 1 290];exact fZ (fG (by decide) _) hA.C0
  refine hC q (XC hm) hA2 T (.mk g (t.k0.rl y)) λz s₃ n=> ?_;induction n with| @mk v σ₃ θ₃ Q m u l=>
  cases v with
  |h9=>rw[show z= .none from u];exact⟨rfl,.mk (v:= .a9 a.length) Q (G₁.j3<|t.j3 m) (m.k0.rv g) l⟩
  |_=>exact l.elim
end
section
variable{C:cR}{w:aW}{J Y:aH}{z X:Th}{s n b P:aF}{A:bN}{E:aD->aF->Prop}{x y:aD}{a v u:V}{f d t g:Nat}{U F:aX}{R:PR}{D l j:List V}{xs:List aD}{L:Lc}{S:cP}{Z:List aM}{r:dH}{k:Co}{K:PF}{c:aT->Co->Co}{p B H:cY}{i I:List aT}{o N:aT}
theorem TM(h:FX o=aB){a:eC aD}:attributeBase o U r a=a:=by
 induction o using dy with
 |Call f d c p=>
  induction f using dy with
  |Name F q=>
   induction d using bM with
   |nil=>
    induction c using bM with
    |nil=>
     have e:(F != "super")=aB:=bne_iff_ne.mpr λe=>by rw[e]at h;change(!(bZ (key "super") 65477030642))=aB at h;exact aZ h (by decide+kernel)
     exact bO (by rw[e];rfl)
    |cons=>rfl
   |cons=>rfl
  |_=>rfl
 |_=>rfl
theorem aDN(hC:sE C w d)(hA:Ar d A)(hE:eV C w A S c){Q:V}(a:aJ w J z s)(Re:aO w Z z s S L r)(ra:Rv w z s Q x)(T:GL v)(h:aS C (kD c i<|.f8 i.length k) K (v::Q::j) L J):
  aL (Md w) A (dx B (zN v) [x] (uV B<|sI i r) []) (Nx w z s<|Rn C k K j L) E s:=by
 have y:∀xs b D m l,aJ w m l b->Gd [] z s l b->Rl w l b D xs->pC i.length (λj=>aS C (.f8 i.length k) K j L) (v::Q::j) D m->aL (Md w) A (fK (zN v)<|[x]++xs) (Nx w z s<|Rn C k K j L) E b:=λxs b D m l u o q t=>
  dP (aER (R:=aS C k K) (B:=j) (L:=L) hC hA.j9 u (o.k0.rv ra) q T<|t.w8 rfl) (λM M f=>f.tr o) λM M e=>e
 rcases T with⟨f,e⟩|⟨g,e,hg⟩
 ·rw[e]at y h⊢;exact aT5 (Gy (xV h).n)<|JZ hE h a Re y
 ·rw[e]at y h⊢;exact MG (Pr (λp h=>((xT w).fn p h).2) hg) hE h a Re y
end
section
variable{C:cR}{w:aW}{J Z:aH}{D Y:Th}{s S I X:aF}{A:bN}{E:aD->aF->Prop}{x y:aD}{a v u:V}{f d t g:Nat}{P e:aX}{R:PR}{n l H:List V}{xs:List aD}{L:Lc}{F:cP}{U:List aM}{r:dH}{k:Co}{K:PF}{c:aT->Co->Co}{p i z:cY}{j N:List aT}{o B:aT}
theorem ZH{i:cY}(a:N.all oP=aB)(b:N.length<30):methodCallForm (N.length+([]:List Keyword).length) (uV i<|sI N r) (backToKw i<|keywordEach [] r)=aB:=by
 delta methodCallForm;have c:(uV i<|sI N r).all (λx=> !x.1)=aB:=by refine aE List.all_eq_not_any_not ?_;simp only[Bool.not_not];refine aE (Gy a) ?_;rfl
 rw[c];exact cU b
theorem uj(hC:sE C w d)(hA:Ar d A)(M:eV C w A F c)(hl:j.length<30)(hp:(z.endLine==i.line)=aB)(hn:fX P=aB)(p:FX o=aB)(h:aS C (c o<|.f9 (key P) (kD c j<|.f8 j.length k)) K H L J)(R:aJ w J D s)(Q:aO w U D s F L r):
  aL (Md w) A (dJ (.Call (.Attribute o P z) j [] i) r) (Nx w D s<|Rn C k K H L) E s:=by
 rw[arm_eval_Call,TM p];refine aK<|Nx.go (M h R Q) λx I v q t l m g f=>aK<|mY ?_;induction f with| @of T y f=>
 delta methodCall;refine aE (ZH (xV f).n hl) ?_;refine aK<|fV ?_;refine aLE l hn g y ?_;refine aK ?_;refine aE (show methodCallPos aB o r z i=bB i from bO hp) ?_;refine bA ?_;show aL _ _ (dx i (zN T) [x] (uV i<|sI j r) []) _ _ _;exact dP (aDN hC hA M l (Q.gd R m) g (aGR y) f) (λu u b=>b.tr m) λu u a=>a
theorem aLN(a:oT w)(M:sE C w d)(x:Ar d A)(m:eV C w A F c)(h:aS C (Wr c F B j i k) K H L J)(t:aJ w J D s)(p:aO w U D s F L r):
  aL (Md w) A (dJ (.Call B j [] i) r) (Nx w D s<|Rn C k K H L) E s:=by
 refine el h (λq T h=> ?_) λh=>el h (λq T h=> ?_) λh=>h.elim
 ·refine aE q.2 ?_;obtain⟨o,h⟩:=iS h;obtain⟨o,y⟩:=bI o;obtain⟨o,h3⟩:=bI o;obtain⟨o,h4⟩:=bI o;exact uj M x m (bQ o) h4 h3 y h t p
 ·refine aE q.2 ?_;obtain⟨v,h⟩:=iS h;refine el h (λg l h=> ?_) λh=>h.elim;induction g with
  |fn g=>exact jv M x m v l h t p
  |s5 cc=>exact aB4 M x m v l h t p
  |bi b=>
   change aS C (MA c F b i j k) K H L J at h;unfold MA at h;cases R:bZ b 7 with
   |true=>replace h:=R▸h;replace l:=(iQ R)▸l;exact aN5 m v l h t p
   |false=>
    replace h:=R▸h;cases Q:bZ b 8 with
    |true=>replace h:=Q▸h;replace l:=(iQ Q)▸l;exact wu x m v l h t p
    |false=>
     replace h:=Q▸h;refine el h (λq u h=> ?_) λh=>el h (λf hf h=>aNR a x m v l hf h t p) λh=>h.elim;cases y:bZ b 2 with
     |false=>replace u:=y▸u;exact nn u
     |true=>replace u:=y▸u;replace l:=(iQ y)▸l;exact qk a x m v l u h t p
  |_=>exact h.elim
end
section
variable{C:cR}{w:aW}{o P:aH}{z N:Th}{s Y i J:aF}{A:bN}{E:aD->aF->Prop}{x y:aD}{a v u:V}{f d t g:Nat}{X S:aX}{U l F:List V}{L:Lc}{D:cP}{I:List aM}{j:dH}{k:Co}{K:PF}{c:aT->Co->Co}{T:aT->Co->Co->Co}{p H:cY}{B:List aT}{R:V->aH->Prop}
theorem xu(Q:eV C w A D c)(h:aS C (LY c B) K F L o)(M:∀v o,K (.b8 v) L o->R v o)(y:aJ w o z s)(u:aO w I z s D L j):aL (Md w) A (boolOp H .Or<|Hq B j) (Nx w z s R) E s:=by
 induction B generalizing o z s F with
 |nil=>exact h.elim
 |cons e r Z=>induction r using bM with
  |nil=>exact Nx.go (Q h y u) λx i v k p a d l m=> .mk a d l (M v k m)
  |cons e2 r=>
   show aL _ _ (dJ e j>>=_) _ _ _;refine aK<|Nx.go (Q h y u) λx i v k p a d l m=>aK<|mY ?_;induction m with| @of b hb t f=>
   refine aK (fV<|Kq a l hb λT=> ?_);have g:=aU.n6 i T;induction b using eT with
   |true=>exact bA<|.mk (a.l8 g) (d.j3<|g.gd _ _) (g.kp.rv l) (M v k<|t rfl)
   |false=>exact dP (Z (f rfl) (a.l8 g)<|(u.gd y d).gd a<|g.gd _ _) (λq q n=>n.tr<|d.j3<|g.gd _ _) λq q e=>e
theorem aLQ(Q:eV C w A D c)(h:aS C (PC c B) K F L o)(M:∀v o,K (.b8 v) L o->R v o)(y:aJ w o z s)(u:aO w I z s D L j):aL (Md w) A (boolOp H .And<|Hq B j) (Nx w z s R) E s:=by
 induction B generalizing o z s F with
 |nil=>exact h.elim
 |cons e r Z=>induction r using bM with
  |nil=>exact Nx.go (Q h y u) λx i v k p a d l m=> .mk a d l (M v k m)
  |cons e2 r=>
   show aL _ _ (dJ e j>>=_) _ _ _;refine aK<|Nx.go (Q h y u) λx i v k p a d l m=>aK<|mY ?_;induction m with| @of b hb t f=>
   refine aK (fV<|Kq a l hb λT=> ?_);have g:=aU.n6 i T;induction b using eT with
   |false=>exact bA<|.mk (a.l8 g) (d.j3<|g.gd _ _) (g.kp.rv l) (M v k<|f rfl)
   |true=>exact dP (Z (t rfl) (a.l8 g)<|(u.gd y d).gd a<|g.gd _ _) (λq q n=>n.tr<|d.j3<|g.gd _ _) λq q e=>e
theorem oj(q:wA C w A D T)(h:aS C (NH T B) K F L o)(l:aJ w o z s)(m:aO w I z s D L j):aL (Md w) A (allTrue .And B j) (Nt w z s λb=>K (.b8 (.e8 b)) L) E s:=by
 induction B generalizing o z s with
 |nil=>exact wpAny_allTrue_And_nil<|.mk l (.n7 _ _ _) h
 |cons e r p=>
  refine wpAny_allTrue_And_cons (wF (q h l m) λb i f g d a c=> ?_);induction b using eT with
  |true=>exact dP (p c d<|m.gd l a) (λk k n=>n.tr a) λk k e=>e
  |false=>exact .mk d a c
theorem aFD(q:wA C w A D T)(h:aS C (PI T B) K F L o)(l:aJ w o z s)(m:aO w I z s D L j):aL (Md w) A (allTrue .Or B j) (Nt w z s λb=>K (.b8 (.e8 b)) L) E s:=by
 induction B generalizing o z s with
 |nil=>exact wpAny_allTrue_Or_nil<|.mk l (.n7 _ _ _) h
 |cons e r p=>
  refine wpAny_allTrue_Or_cons (wF (q h l m) λb i f g d a c=> ?_);induction b using eT with
  |false=>exact dP (p c d<|m.gd l a) (λk k n=>n.tr a) λk k e=>e
  |true=>exact .mk d a c
end
section
variable{C:cR}{w:aW}{N X:aH}{F U:Th}{s o D j:aF}{A:bN}{E:aD->aF->Prop}{x y:aD}{a v u:V}{f d t g:Nat}{b Z:aX}{z I:List V}{L:Lc}{P:cP}{S:List aM}{B:dH}{k:Co}{K:PF}{c:aT->Co->Co}{T:aT->Co->Co->Co}{p H:cY}{es:List aT}{R:V->aH->Prop}{J Y:qW}{l r n e i:aT}
theorem IV(h:vX e=aI):aQ1 J e=aI:=by
 cases e with
 |Set=>exact aZ h iE
 |_=>rfl
theorem aPQ(hu:A.units+60<dO)(hE:eV C w A P c)(hr:vX r=aI)(h:aS C (c l<|c r<|.f6 J k) K I L N)(I0:aJ w N F s)(Re:aO w S F s P L B):aL (Md w) A (dJ (.Compare l [J] [r] H) B) (Nx w F s<|Rn C k K I L) E s:=by
 refine wpAny_Compare1 (Nx.go (hE h I0 Re) λx D v T θ₁ Q i q M=>Nx.go (hE M Q<|Re.gd I0 i) λy j u m θ₂ f g p e=> ?_) (IV hr);induction e with| @of d R e=>
 cases hb:dZ J v u m with
 |none=>rw[hb]at R;exact nn R
 |some a=>rw[hb]at R;rw[←aV R]at e;exact DY f hu (g.k0.rv q) p hb λt=>(Nx.l8 (v:= .e8 a) f (.n6 j t) rfl e).tr<|i.j3 g
theorem aAC(hE:eV C w A P c){a:KJ}(h:aS C (c l<|c r<|.j0 a k) K I L N)(I0:aJ w N F s)(Re:aO w S F s P L B):aL (Md w) A (dJ (.BinOp l a r H) B) (Nx w F s<|Rn C k K I L) E s:=by
 refine wpAny_BinOp (Nx.go (hE h I0 Re) λx D v R θ₁ M i p q=>Nx.go (hE q M<|Re.gd I0 i) λy j u Q T t g m f=> ?_);induction f with|of hz f=>
 exact dP (aDZ t (g.k0.rv p) m hz f) (λq9 q9 d=>d.tr<|i.j3 g) λq9 q9 e=>e
end
section
variable{C:cR}{w:aW}{H z:aH}{D Z:Th}{s s' j Y:aF}{A:bN}{E:aD->aF->Prop}{x y:aD}{a v u:V}{f d t g:Nat}{X N:aX}{n F:List V}{L:Lc}{J:cP}{S:List aM}{B:dH}{k:Co}{K:PF}{c:aT->Co->Co}{T:aT->Co->Co->Co}{p I:cY}{es:List aT}{R:V->aH->Prop}{l r b e i o:aT}{U:EE}
theorem aEI(h:aS C (Xl U k) K F L H)(d:aJ w H D s){c:Nat}:aL (Md w) A (dJ (.Constant U c I) B) (Nx w D s<|Rn C k K F L) E s:=by
 cases U with
 |none=>exact wpAny_Constant_none<|.A5 (v:= .h9) d rfl h
 |bool a=>exact wpAny_Constant_bool<|.A5 (v:= .e8 a) d rfl h
 |int i=>exact aQG<|.l8 (v:= .a5 i) d (.n6 s _) (RI.mk _) h
 |str t=>obtain⟨e,h⟩:=iS h;exact aTQ<|.l8 (v:= .d9 t) d (.n6 s _) (RS.mk _<|bQ e) h
 |_=>exact h.elim
theorem SX{a:iL}(h:Ee a=aB):a= .globalImplicit:=by
 induction a with
 |globalImplicit=>rfl
 |_=>exact aZ h cC
theorem aGB(h:aS C (Yy J N k) K F L H)(f:aJ w H D s)(m:aO w S D s J L B):aL (Md w) A (dJ (.Name N I) B) (Nx w D s<|Rn C k K F L) E s:=by
 obtain⟨i,h⟩:=iS h;refine el h (λo d h=> ?_) λh=>h.elim;cases a:Ee o with
 |true=>
  rw[a]at h;refine el h (λv p h=> ?_) λh=>h.elim;obtain⟨g,q,l⟩:=ob p;rw[SX a]at d;refine Fq m f (bI i).1 d q λx r=> ?_;induction g with
  |i4 u=>exact .A5 (v:=v) f (aV l▸r) h
  |_=>exact nn l
 |false=>
  rw[a]at h;change wL (lg (nG (key N)<|eD J) L) (aS C k K) F L H at h;cases c:lg (nG (key N)<|eD J) L with
  |none=>rw[c]at h;exact h.elim
  |some u=>rw[c]at h;exact uv m i d (λe=>by rw[e]at a;exact iE a) c λx r=> .A5 f r h
theorem aHA(t:eV C w A J c)(h:aS C (hM (fX X&&FX o)<|c o<|.i6 (key X) k) K F L H)(M:aJ w H D s)(y:aO w S D s J L B):aL (Md w) A (dJ (.Attribute o X I) B) (Nx w D s<|Rn C k K F L) E s:=by
 obtain⟨u,h⟩:=iS h;obtain⟨q,p⟩:=bI u;refine aW0 (Nx.go (t h M y) λx j v i l e g f d=> ?_) (by rw[arm_eval_Attribute,TM p])
 induction d with|of r d=>
 exact lh e q f r λa m=>(Nx.l8 e (.n6 j _) ((aU.n6 j _).kp.rv m) d).tr g
theorem ur(q:eV C w A J c)(h:aS C (c o<|.M1 k) K F L H)(u:aJ w H D s)(r:aO w S D s J L B):aL (Md w) A (dJ (.UnaryOp .Not o I) B) (Nx w D s<|Rn C k K F L) E s:=by
 refine aQH (Nx.go (q h u r) λx j v f m e i g d=>PySem.not_value ?_);induction d with|of l d=>
 cases p:yC v f with
 |none=>rw[p]at l;exact nn l
 |some a=>rw[p]at l;rw[←aV l]at d;exact Kq e g p λt=>(Nx.l8 (v:= .e8 (!a)) e (.n6 j t) rfl d).tr i
theorem aNT(p:eV C w A J c)(h:aS C (c o<|.v1 k) K F L H)(r:aJ w H D s)(q:aO w S D s J L B):aL (Md w) A (dJ (.UnaryOp .USub o I) B) (Nx w D s<|Rn C k K F L) E s:=by
 refine aQH (Nx.go (p h r q) λx j v g l e f d a=> ?_);induction a with|of m a=>
 induction v using V.casesOn with
 |a5 i=>rw[←aV m]at a;induction d with|mk t=>exact aTC<|(Nx.l8 (v:= .a5 (-i)) e (.n6 j _) (RI.mk _) a).tr f
 |_=>exact nn m
end
section
variable{C:cR}{w:aW}{N X:aH}{F U:Th}{s s' D j:aF}{A:bN}{E:aD->aF->Prop}{x y:aD}{a v u:V}{f d t g:Nat}{z Y:aX}{Z J:List V}{L:Lc}{I:cP}{S:List aM}{B:dH}{k:Co}{K:PF}{c:aT->Co->Co}{T:aT->Co->Co->Co}{p H:cY}{es:List aT}{R:V->aH->Prop}{l r n e i o b:aT}{P:EE}
theorem aFU(hu:A.units+60<dO)(hE:eV C w A I c)(h:aS C (match GX i with|some P=>c o (.v0 P k)|none=>c o<|c i<|.e7 k) K J L N)(I0:aJ w N F s)(Re:aO w S F s I L B):aL (Md w) A (dJ (.Subscript o i H) B) (Nx w F s<|Rn C k K J L) E s:=by
 rw[eval_Subscript];cases hc:GX i with
 |some P=>
  rw[hc]at h;refine aK<|Nx.go (hE h I0 Re) λx D v r t m f g d=> ?_;induction d with|of hz d=>
  exact aK (fV<|dP (mi m hc g hz d (e:=o) (l:=B)) (λi j h₂=>aK<|mY<|dP h₂ (λR R b=>b.tr f) λR R e=>e) λR R x=>x)
 |none=>
  rw[hc]at h;refine aK<|Nx.go (hE h I0 Re) λx D v r t m f g d=>aK<|fV<|Nx.go (hE d m<|Re.gd I0 f) λy j u σ₂ θ₂ p q Q l=>aK<|mY ?_;induction l with|of hz l=>
  have M:=nh (A:=A) p hu (q.k0.rv g) Q hz;obtain⟨T,id',hT,hl⟩:=M.t;obtain⟨ops,hops⟩:=Xh i x y;exact tail_any hT hl (M.g λtk a rz=>(Nx.l8 p (.n6 j tk) ((aU.n6 j tk).kp.rv rz) l).tr<|f.j3 q) hops
theorem aDF(t:eV C w A I c)(u:wA C w A I T)(h:aS C (.j2 (T e (c b .b8)<|c o .b8) k) K J L N)(r:aJ w N F s)(q:aO w S F s I L B):aL (Md w) A (dJ (.IfExp e b o H) B) (Nx w F s<|Rn C k K J L) E s:=by
 refine wpAny_IfExp (wF (u h r q) λa D m p i f g=> ?_);induction a using eT with
 |true=>exact dP (t g i<|q.gd r f) (λl l d=>d.tr f) λl l e=>e
 |false=>exact dP (t g i<|q.gd r f) (λl l d=>d.tr f) λl l e=>e
end
section
variable{C:cR}{w:aW}{J S:aH}{H P:Th}{s z o n:aF}{A:bN}{E:aD->aF->Prop}{x y:aD}{a v u:V}{f d t g:Nat}{Z X:aX}{Y I:List V}{L:Lc}{N:cP}{U:List aM}{i:dH}{k:Co}{K:PF}{c:aT->Co->Co}{p F:cY}{R:V->aH->Prop}{l r B:aT}{D j:qW}
theorem wn(y:aQ1 j B=aI){Q:aD->aF->Prop}
  (h:aL (Md w) A (dJ l i) (λa o=>aL (Md w) A (dJ r i) (λb n=>aL (Md w) A (yW D a b) (λc k=>aL (Md w) A (Qr c) (λt d=>
   if t then aL (Md w) A (dJ B i) (λe g=>aL (Md w) A (yW j b e) Q E g) E d else Q c d) E k) E n) E o) E s):aL (Md w) A (dJ (.Compare l [D,j] [r,B] F) i) Q E s:=by
 rw[arm_eval_Compare];refine aK<|dP h (λa o v=> ?_) λf f x=>x;have C:aQ2 [D,j] [r,B] (Hq [r,B] i)=[dJ r i,markedBehindIn j B<|dJ B i]:=rfl;rw[C,aUH y];show aL _ _ (rI [a] (dJ r i)>>=_) _ _ _;refine aK<|fV<|dP v (λb n u=>aK<|mY<|aK<|fV<|dP u (λc k q=> ?_) λf f x=>x) λf f x=>x;refine aK<|da<|aK<|fV<|dP q (λt d m=> ?_) λf f x=>x;induction t using eT with
 |false=>exact bA m
 |true=>show aL _ _ (rI [b] (dJ B i)>>=_) _ _ _;exact aK<|fV<|dP m (λe g p=>aK<|mY<|wpAny_operate' p) λf f x=>x
theorem sh(hu:A.units+60<dO)(hE:eV C w A N c)(h2:vX B=aI)(h:aS C (.j2 (c l<|c r<|.I5 D (c B<|.f6 j .b8)) k) K I L J)(I0:aJ w J H s)(Re:aO w U H s N L i):
  aL (Md w) A (dJ (.Compare l [D,j] [r,B] F) i) (Nx w H s<|Rn C k K I L) E s:=by
 refine wn (IV h2) (Nx.go (hE h I0 Re) λx o v σ₁ θ₁ Q q r₁ q₁=>Nx.go (hE q₁ Q<|Re.gd I0 q) λy n u σ₂ θ₂ m p M q₂=> ?_);induction q₂ with| @of b hb t f=>
 refine DY m hu (p.k0.rv r₁) M hb λtk=>Hn ?_;have g:=aU.n6 n tk;have G:=(q.j3 p).j3<|g.gd [] θ₂;have d:=m.l8 g;induction b using eT with
 |false=>exact .mk (v:= .e8 aI) d G rfl (f rfl)
 |true=>
  refine Nx.go (hE (t rfl) d<|((Re.gd I0 q).gd Q p).gd m<|g.gd _ _) λa s₃ v3 T θ₃ d R r₃ e=> ?_;induction e with| @of a hz e=>
  cases hb2:dZ j u v3 T with
  |none=>rw[hb2]at hz;exact nn hz
  |some b2=>rw[hb2]at hz;rw[←aV hz]at e;exact DY d hu (R.k0.rv<|g.kp.rv M) r₃ hb2 λt=>(Nx.l8 (v:= .e8 b2) d (.n6 s₃ t) rfl e).tr<|G.j3 R
end
section
variable{C:cR}{w:aW}{D U:aH}{H X:Th}{s Y i j:aF}{A:bN}{E:aD->aF->Prop}{x y:aD}{a v u:V}{L:Lc}{P:cP}{S:List aM}{d:dH}{k J N:Co}{K:PF}{B:List V}{c:aT->Co->Co}{p I:cY}{e l r o:aT}{F n:qW}
theorem Yq(y:eV C w A P c)(r:zE e d (dJ e d)=(do let v ←dJ e d;EQ e.pos;rI [v] (Qr v)))(h:aS C (c e<|.br J N) K B L D)(M:aJ w D H s)(z:aO w S H s P L d):
  aL (Md w) A (zE e d<|dJ e d) (Nt w H s<|tf (aS C J K B L)<|aS C N K B L) E s:=by
 refine wpAny_isTrue_value (Nx.go (y h M z) λx i v m p a l g k=> ?_) r;induction k with| @of b u t f=>
 refine Kq a g u λq=> .mk (a.l8<|.n6 i q) (l.j3<|(aU.n6 i q).gd _ _) ?_;induction b using eT with
 |true=>exact t rfl
 |false=>exact f rfl
theorem aA7(hu:A.units+60<dO)(hE:eV C w A P c)(hr:vX r=aI)(h:aS C (c l<|c r<|.f6 F (.br J N)) K B L D)(I0:aJ w D H s)(Re:aO w S H s P L d){p:eC aD}:
  aL (Md w) A (zE (.Compare l [F] [r] I) d p) (Nt w H s<|tf (aS C J K B L)<|aS C N K B L) E s:=by
 refine wpAny_isTrue_Compare1 (Nx.go (hE h I0 Re) λx i v Z θ₁ R k M Q=>Nx.go (hE Q R<|Re.gd I0 k) λy j u m θ₂ e g q a=> ?_) (IV hr);induction a with| @of z T a=>
 cases hb:dZ F v u m with
 |none=>rw[hb]at T;exact nn T
 |some b=>
  rw[hb]at T;rw[←aV T]at a;refine DY e hu (g.k0.rv M) q hb λt=>Hn<|.mk (e.l8<|.n6 j t) ((k.j3 g).j3<|(aU.n6 j t).gd _ _) ?_;induction a with| @of b' hb' t f=>
  cases aV hb';induction b using eT with
  |true=>exact t rfl
  |false=>exact f rfl
theorem aOU{u:eC aD}(L:aQ1 n o=aI){Q:Bool->aF->Prop}
  (h:aL (Md w) A (dJ l d) (λa i=>aL (Md w) A (dJ r d) (λb j=>aL (Md w) A (yW F a b) (λc p=>aL (Md w) A (Qr c) (λt f=>
   if t then aL (Md w) A (dJ o d) (λe m=>aL (Md w) A (yW n b e) (λc k=>aL (Md w) A (Qr c) Q E k) E m) E f else Q aI f) E p) E j) E i) E s):aL (Md w) A (zE (.Compare l [F,n] [r,o] I) d u) Q E s:=by
 show aL _ _ (do testChain I (←dJ l d) [F,n] (aQ2 [F,n] [r,o]<|Hq [r,o] d)) _ _ _
 refine aK (dP h (λa i K=> ?_) λg g x=>x);have M:aQ2 [F,n] [r,o] (Hq [r,o] d)=[dJ r d,markedBehindIn n o<|dJ o d]:=rfl;rw[M,aUH L];show aL _ _ (rI [a] (dJ r d)>>=_) _ _ _;refine aK<|fV<|dP K (λb j C=>aK<|mY<|aK<|fV<|dP C (λc p z=> ?_) λg g x=>x) λg g x=>x;refine aK<|da<|aK<|fV<|dP z (λt f q=> ?_) λg g x=>x;induction t using eT with
 |false=>exact bA q
 |true=>show aL _ _ (rI [b] (dJ o d)>>=_) _ _ _;refine aK<|fV<|dP q (λe m y=>aK<|mY<|aK<|wpAny_operate'<|dP y (λc k v=> ?_) λg g x=>x) λg g x=>x;exact fV v
theorem nf(hu:A.units+60<dO)(hE:eV C w A P c)(h2:vX o=aI)(h:aS C (.j2 (c l<|c r<|.I5 F (c o<|.f6 n .b8)) (.br J N)) K B L D)(I0:aJ w D H s)(Re:aO w S H s P L d){whole:eC aD}:
  aL (Md w) A (zE (.Compare l [F,n] [r,o] I) d whole) (Nt w H s<|tf (aS C J K B L)<|aS C N K B L) E s:=by
 have fin:∀{b:Bool} {D:aH},aS C (.br J N) K (.e8 b::B) L D->tf (aS C J K B L) (aS C N K B L) b D:=λ{b D} q=>by
  induction q with| @of b' hb' t f=>
  cases aV hb';induction b using eT with
  |true=>exact t rfl
  |false=>exact f rfl
 refine aOU (IV h2) (Nx.go (hE h I0 Re) λx i v σ₁ θ₁ R p r₁ q₁=>Nx.go (hE q₁ R<|Re.gd I0 p) λy j u σ₂ θ₂ k m Q q₂=> ?_);induction q₂ with| @of b hb t f=>
 refine DY k hu (m.k0.rv r₁) Q hb λtk=>Hn ?_;have g:=aU.n6 j tk;have G:=(p.j3 m).j3<|g.gd [] θ₂;have a:=k.l8 g;induction b using eT with
 |false=>exact .mk a G (fin<|f rfl)
 |true=>
  refine Nx.go (hE (t rfl) a<|((Re.gd I0 p).gd R m).gd k<|g.gd _ _) λz M v3 Z θ₃ a T r₃ e=> ?_;induction e with| @of z hz e=>
  cases hb2:dZ n u v3 Z with
  |none=>rw[hb2]at hz;exact nn hz
  |some b2=>rw[hb2]at hz;rw[←aV hz]at e;exact DY a hu (T.k0.rv<|g.kp.rv Q) r₃ hb2 λt=>Hn<|.mk (a.l8<|.n6 M t) ((G.j3 T).j3<|(aU.n6 M t).gd _ _) (fin e)
end
section
variable{C:cR}{w:aW}{J U:aH}{j f:Th}{s B z i:aF}{A:bN}{E:aD->aF->Prop}{x y:aD}{a v u:V}{L:Lc}{t:cP}{n:List aM}{Z:dH}{k:Co}{K:PF}{X:List V}{c:aT->Co->Co}{p:cY}{H:List (Option aT)}{Y:List aT}{N:List (aD×aD)}{P:List V}{acc:List (V×V)}{D:aM}{b:Bool}{R:V->aH->Prop}
noncomputable abbrev Yj(N:List (aD×aD)):List aD:=N.flatMap λa=>[a.1,a.2]
theorem aIZ(hE:eV C w A t c){Q:List (aD×aD)->aF->Prop}(h:aS C (IY c H Y k) K X L J)(hn:H.all (·.isSome)=aB)(hl:H.length=Y.length)(I:aJ w J j s)(R:aO w n j s t L Z)
  (q:∀N B P U f,aJ w U f B->Gd [] j s f B->Rl w f B P (Yj N)->N.length=H.length->pC (H.length+H.length) (λX=>aS C k K X L) X P U->Q N B):aL (Md w) A (evalPairs<|pairTrees H Y Z p) Q E s:=by
 induction H generalizing Y X J j s Q with
 |nil=>induction Y using bM with
  |nil=>exact evalPairs_nil<|q [] s [] J j I (.n7 _ _ _) rfl rfl ⟨rfl,h⟩
  |cons=>exact aZ hl.symm<|Ls _
 |cons o r ih=>induction Y using bM with
  |nil=>exact aZ hl<|Ls _
  |cons e a=>induction o using jP with
   |none=>exact aZ hn cC
   |some e'=>refine evalPairs_cons<|Nx.go (hE h I R) λx z v σ₁ θ₁ g d D M=>aK<|Nx.go (hE M g<|R.gd I d) λy i u T θ₂ S b m F=>aK<|mY<|bA<|ih F hn (nP hl) S ((R.gd I d).gd g b) λN l P U f I' G' r' z' e'=>q ((x,y)::N) l (v::u::P) U f I' ((d.j3 b).j3 G') (.mk (G'.k0.rv<|b.k0.rv D) (.mk (G'.k0.rv m) r')) (aN EI z') ⟨?_,?_⟩;rw[AC,AC,e'.1];exact(Nat.add_add_add_comm _ 1 _ 1).symm;rw[Di,Di,dK,dK];exact e'.2
inductive yG (w:aW) (j:Th) (s:aF) (D:aM) (acc:List (V×V)):Prop
 |mk {es:List fB} (g:s.heap.get? D=aA (jB es es.length)) (d:bL s D es (F2 (Rd w j s) acc) acc)
theorem qr{k:V}(b:iC k=aB)(h:gE acc=aB):gE (gV k v acc)=aB:=by
 rw[Gp];cases c:fd k acc with
 |none=>exact bq.trans (by rw[show acc.all _=aB from h];exact(aPY _).trans b)
 |some a=>
  have e:∀m:List (V×V),gE m=(m.map (·.1)).all iC:=λm=>by rw[qZ];rfl
  rw[e]at h⊢;exact NZ v acc a▸h
theorem aFM(hu:A.units<dO){Q:PUnit->aF->Prop}(r:Rl w j s P (Yj N))(h:OQ P acc=aA v)(L:gE acc=aB)(hD:D∈j.F)(d:yG w j s D acc)(hl:acc.length+N.length<=cF)(I:aJ w J j s)
  (q:∀B l,v= .b7 l->bJ [D] s B->yG w j B D l->Q .unit B):aL (Md w) A (storeAll D N) Q E s:=by
 have M:∀a∈[D],a∈j.F:=λa h=>qN hD h;induction N generalizing P acc s with
 |nil=>
  unfold storeAll;rw[aQR];induction P using bM with
  |nil=>exact bA<|q s acc (aV h).symm (.n7 _ _) d
  |cons=>exact vU r.f7
 |cons m N ih=>induction P using bM with
  |nil=>exact tY r.f7
  |cons k P=>induction P using bM with
   |nil=>exact nomatch nP r.f7
   |cons u P=>
    cases r with|mk r1 r=>cases r with|mk T R=>
    obtain⟨K,h⟩:=rK h;unfold storeAll;rw[Lr];induction d with| @mk es g d=>
    have y:dY k acc=aB:=by dsimp only[dY];rw[K,show acc.all _=aB from L];rfl
    refine aK (aK<|OP g d r1 T y hu λb h' F n' S=>bA ?_);have c:=bJ.u9 (t:=b) S.u9;have k:=c.kp M;have o:F.length<=acc.length+1:=S.r.f7▸KA;have C:=S.g;rw[S.ep rfl]at C;have x:acc.length+1+N.length<=cF:=(BY _ 1 _).symm▸hl;exact ih (k.rl R) h (qr K L) (.mk C ⟨⟨_,C⟩,d.h3,aR o<|aR (dI _ _) x,S.nd,k.rd S.r⟩) (aR (Dy KA _) x) (c.s7 I M) λB l e c' d'=>q B l e (c.j3 c') d'
theorem aKE{b:Bh}(c:s.heap.objs.size<=D)(G:Gd [] j s ⟨b,j.F⟩ B):Gd [] j s ⟨b++[(D,D)],j.F⟩ B:=
 ⟨by obtain⟨e,d⟩:=G.o9;exact⟨e++[(D,D)],by show b++[(D,D)]=_;rw[show b=j.ρ++e from d,dK]⟩,rfl,λa h=>(Bo h).elim (G.o8 a) λh=> .inr (h.elim (λe=>e▸c) λe=>e▸c),G.i9,G.i8,G.os⟩
theorem UD{F:List aM}(d:∀a∈F,a∈f.F)(g:D∈f.F):Kp f B ⟨f.ρ++[(D,D)],F⟩ B:=
 ⟨λb o h c=>⟨h,λk=>k.elim (λh=>(Bo h).elim (λh=>c<|.inl h) λh=>h.elim (λe=>c<|.inr (e▸g)) λe=>c<|.inr (e▸g)) λh=>c<|.inr (d b h)⟩,OD⟩
theorem aJM{F:List aM}{o:O}(I:aJ w J f B)(b:∀a∈F,a∈f.F)(c:D∈f.F)(d:D∉F)(g:Ro w ⟨f.ρ++[(D,D)],F⟩ B o (D,D)):aJ w (J++[o]) ⟨f.ρ++[(D,D)],F⟩ B:=
 I.F7 (.n7 B) b (λa h=>have e:a=D:=h.elim id id;e▸⟨I.u3 D<|.inr c,λh=>I.s8 D h c,d⟩) (UD b c) g
theorem aFH{l:List (V×V)}(y:aJ w U j s)(u:f.F=D::j.F)(m:s.heap.objs.size<=D)(G:Gd [] j s ⟨f.ρ,j.F⟩ B)(I:aJ w J f B)(d:yG w f B D l)(q:aS C (mu b k) K (.b7 l::X) L J):Nx w j s (Rn C k K X L) (.ref D) B:=by
 have e:D∈f.F:=u▸ .head _;have c:∀a∈j.F,a∈f.F:=λa h=>u▸ .tail _ h;have r:D∉j.F:=λh=>aZ (y.v5 D h)<|eI.mpr m;induction d with|mk g d=>
 induction b using eT with
 |false=>exact .mk (D:=⟨f.ρ,j.F⟩) (I.D8 c) G (uK▸RD.mk (d.kp (λx h=>h) (Aa c).rd) λh=>h.elim (λh=>I.s8 D h e) r) q
 |true=>exact .mk (v:= .a9 J.length) (aJM (o:= .b7 l) I c e r<|sU.mk (q:=(D,D)) rfl g d.hl d.nd ((UD c e).rd d.hs) λx=>rfl) (aKE m G) (RR.mk (q:=(D,D)) I.J2) q
theorem aBH(hE:eV C w A t c)(hu:A.units+60<dO)(h:aS C (hM (jV H.length 15&&H.all (·.isSome)&&bZ H.length Y.length)<|IY c H Y<|.b7 H.length (mu b k)) K X L J)(I:aJ w J j s)(R:aO w n j s t L Z):
  aL (Md w) A (dJ (.Dict H Y p) Z) (Nx w j s<|Rn C k K X L) E s:=by
 obtain⟨v,h⟩:=iS h;obtain⟨v,S⟩:=bI v;obtain⟨v,h3⟩:=bI v;have v:=bV v;have S:=iQ S;have g:=aU.u4 s {cls:= .type "dict",data:= .dict #[]} s.toks;have m:=oU s.heap {cls:= .type "dict",data:= .dict #[]};have lo:∀a∈[s.heap.objs.size],s.heap.objs.size<=a:=λa h=>bW (dU.mp h).symm;have r:=I.y8 g lo λa h=>dU.mp h▸iF m;have F:=I.o8<|bT s.heap.objs.size;have go:∀{f:Th} {B:aF} {l:List (V×V)} {J:aH},aJ w J f B->Gd [s.heap.objs.size] (j.j5 [s.heap.objs.size]) {s with heap:=s.heap.push {cls:= .type "dict",data:= .dict #[]}} f B->yG w f B s.heap.objs.size l->aS C (mu b k) K (.b7 l::X) L J->Nx w j s (Rn C k K X L) (.ref s.heap.objs.size) B:=
  λI' G' d q=>aFH I G'.fr (bT _) (Gd.H6 g lo G' λa h=> .inl h) I' d q
 have d0:∀{f:Th} {B:aF},B.heap.get? s.heap.objs.size=aA (jB [] 0)->yG w f B s.heap.objs.size []:=λh=> .mk (es:=[]) h ⟨⟨_,h⟩,F.k.2,eO _,.nil,rfl⟩;induction H using bM with
 |nil=>induction Y using bM with
  |nil=>
   induction h with|of h q=>
   rw[←aV h]at q;exact wpAny_Dict_empty<|go r (.n7 _ _ _) (d0 m) q
  |cons=>exact vU S
 |cons o H=>
  refine wpAny_Dict_any h3 S (Hu _ _) v (aIZ hE h h3 S r (R.j5 g lo) λN i P σ₂ D y u Q M T=> ?_);have q:=T.w8 rfl;induction q with|of hv q=>
  have hD:s.heap.objs.size∈D.F:=u.fr▸ .head _;refine aFM (um (k:=0) hu) Q hv rfl hD (d0 (u.i8 _ _ m (λh=>(by contradiction)) λh=>r.s8 _ h<|.head _)) ?_ y λs₃ l e x d₃=> ?_
  rw[M];exact aR (bW<|jH _)<|aR v<|bV rfl;rw[e]at q;exact go (x.s7 y λa h=>qN hD h) (u.t9.j3 x.gd) d₃ q
end
section
variable{C:cR}{w:aW}{Z Y:aH}{U H:Th}{s X J i:aF}{A:bN}{E:aD->aF->Prop}{x y:aD}{a v u:V}{L:Lc}{p:cP}{g:List aM}{B:dH}{k:Co}{K:PF}{F:List V}{c:aT->Co->Co}{j:cY}{l:List (Option aT)}{f:List aT}{S:List (aD×aD)}{r:List V}{acc:List (V×V)}{D:aM}{b:Bool}{R:V->aH->Prop}
variable{C:cR}{w:aW}{Z Y:aH}{U H:Th}{s X J i:aF}{A:bN}{E:aD->aF->Prop}{L:Lc}{p:cP}{g:List aM}{B:dH}{N P:Co}{K:PF}{F:List V}{d:Nat}{e:aT}
theorem YN{b:Bool}(q:aS C (.br N P) K (.e8 b::F) L Z):tf (aS C N K F L) (aS C P K F L) b Z:=by
 induction q with| @of d c t a=>
 cases aV c;induction b using eT with
 |true=>exact t rfl
 |false=>exact a rfl
theorem Ug{m:eC Bool}(h:aL (Md w) A m (Nt w U s λb=>CD (aS C (.br N P) K) F (.b8 (.e8 b)) L) E s):aL (Md w) A m (Nt w U s<|tf (aS C N K F L)<|aS C P K F L) E s:=
 wF h λa a a a I G q=> .mk I G (YN q)
structure lB(C:cR)(w:aW)(A:bN)(n:Nat):Prop where
 e:∀p,eV C w A p<|cE p n
 t:∀p,wA C w A p<|cT p n
theorem aA0(D:oT w)(hC:sE C w d)(hA:Ar d A){n:Nat}(ih:lB C w A n)(p:cP):eV C w A p (cE p<|n+1):=by
 intro g B e k K F L Z U s E h I R;have M:= @lB.e _ _ _ _ ih p;have hT:= @lB.t _ _ _ _ ih p;have hu:=hA.y9;cases e with
 |Constant c n j=>exact aEI h I
 |Name id j=>exact aGB h I R
 |BoolOp op f j=>
  rw[arm_eval_BoolOp];induction op with
  |Or=>exact xu M (c:=cE p n) h (λq9 q9 q=>q) I R
  |And=>exact aLQ M (c:=cE p n) h (λq9 q9 q=>q) I R
 |BinOp v op u j=>exact aAC M h I R
 |UnaryOp op x j=>induction op with
  |Not=>exact ur M h I R
  |USub=>exact aNT M h I R
  |_=>exact iI h
 |IfExp t b o j=>exact aDF M hT h I R
 |Dict l f j=>exact aBH M hu h I R
 |List es j=>exact jr M h I R
 |Tuple es m j=>exact aGN M h I R
 |ListComp elt gens Q j=>induction gens using bM with
  |nil=>exact iI h
  |cons y rest=>obtain⟨t,it,ifs,a⟩:=y;obtain⟨h1,hr⟩:=iS h;obtain⟨h1,h2⟩:=bI h1;obtain⟨h1,h3⟩:=bI h1;obtain⟨h1,h4⟩:=bI h1;cases jX h1;exact aNU (c:=cE p n) (o:=cE Q.names n) (T:=cT Q.names n) (.mk M (@lB.e _ _ _ _ ih _) (@lB.t _ _ _ _ ih _)) hA h4 h3 h2 hr I R
 |Compare v ops rs j=>induction ops using bM with
  |nil=>exact iI h
  |cons op ops=>induction ops using bM with
   |nil=>induction rs using bM with
    |nil=>exact iI h
    |cons u rs=>induction rs using bM with
     |nil=>obtain⟨h1,h⟩:=iS h;exact aPQ hu M ((mL _).mp h1) h I R
     |cons=>exact iI h
   |cons op2 ops=>induction ops using bM with
    |nil=>induction rs using bM with
     |nil=>exact iI h
     |cons u rs=>induction rs using bM with
      |nil=>exact iI h
      |cons r2 rs=>induction rs using bM with
       |nil=>obtain⟨h1,h⟩:=iS h;exact sh hu M ((mL _).mp h1) h I R
       |cons=>exact iI h
    |cons=>exact iI h
 |Call func args kws j=>induction kws using bM with
  |nil=>exact aLN D hC hA M h I R
  |cons=>exact iI h
 |Attribute o a j=>exact aHA M h I R
 |Subscript o z j=>exact aFU hu M h I R
 |JoinedStr f j=>exact aE1 M h I R
 |_=>exact iI h
theorem aCO(hA:Ar d A){n:Nat}(ih:lB C w A n)(ih2:lB C w A (n-1))(p:cP):wA C w A p (cT p<|n+1):=by
 intro g B e N P K F L Z U s E h I R;have Q:= @lB.e _ _ _ _ ih p;have M:= @lB.t _ _ _ _ ih p;have hu:=hA.y9;cases e with
 |UnaryOp op x j=>induction op with
  |Not=>
   refine wpAny_isTrue_Not (wF (M h I R) λb X Y H I' G' q=> .mk I' G' ?_);induction b using eT with
   |true=>exact q
   |false=>exact q
  |_=>exact Yq Q rfl h I R
 |BoolOp op f j=>induction op with
  |And=>exact aUI<|Ug<|oj M h I R
  |Or=>exact aUI<|Ug<|aFD M h I R
 |IfExp t b o j=>
  show aL _ _ (do if ←zE t B (dJ t B)then zE b B (dJ b B)else zE o B (dJ o B)) _ _ _
  have T:∀{m:eC Bool} {H:Th} {X:aF},Gd [] U s H X->aL (Md w) A m (Nt w H X<|tf (aS C Fx (CD (aS C (.br N P) K) F) [] L)<|aS C GK (CD (aS C (.br N P) K) F) [] L) E X->aL (Md w) A m (Nt w U s<|tf (aS C N K F L)<|aS C P K F L) E X:=λG h=>wF h λb q9 q9 q9 I' G' q=> .mk I' (G.j3 G') (YN (by induction b using eT with|true=>exact q|false=>exact q))
  refine aK (wF (M h I R) λz J σ₁ θ₁ D k y=> ?_);induction z using eT with
  |true=>exact T k<|M y D<|R.gd I k
  |false=>exact T k<|M y D<|R.gd I k
 |Compare c u v j=>induction n using fO with
  |zero=>exact iI h
  |succ m=>
   have Q:= @lB.e _ _ _ _ ih2 p;induction u using bM with
   |nil=>exact iI h
   |cons op u=>induction u using bM with
    |nil=>induction v using bM with
     |nil=>exact iI h
     |cons a v=>induction v using bM with
      |nil=>obtain⟨h1,h⟩:=iS h;exact aA7 hu Q ((mL _).mp h1) h I R
      |cons=>exact iI h
    |cons op2 u=>induction u using bM with
     |nil=>induction v using bM with
      |nil=>exact iI h
      |cons a v=>induction v using bM with
       |nil=>exact iI h
       |cons r2 v=>induction v using bM with
        |nil=>obtain⟨h1,h⟩:=iS h;exact nf hu Q ((mL _).mp h1) h I R
        |cons=>exact iI h
     |cons=>exact iI h
 |_=>exact Yq Q rfl h I R
theorem FA(a:oT w)(k:sE C w d)(c:Ar d A)(n:Nat):lB C w A n:=by
 have z:lB C w A 0:=⟨λe {_ _ _ _ _ _ _ _ _ _ _} h=>iI h,λe {_ _ _ _ _ _ _ _ _ _ _ _} h=>iI h⟩;have:lB C w A n/\lB C w A (n-1):=by
  induction n with
  |zero=>exact⟨z,z⟩
  |succ n b=>exact⟨⟨aA0 a k c b.1,aCO c b.1 b.2⟩,b.1⟩
 exact this.1
end
section
variable{C:cR}{w:aW}{J I:aH}{S Z:Th}{s o H Y:aF}{A:bN}{E:aD->aF->Prop}{x y:aD}{a v u:V}{L:Lc}{z:cP}{i:List aM}{F:dH}{k:Co}{K:PF}{U:List V}{c:aT->Co->Co}{X:cY}{f:List (Option aT)}{d:List aT}{P:List (aD×aD)}{r:List V}{acc:List (V×V)}{D:aM}{b:Bool}{R:V->aH->Prop}
variable{C:cR}{w:aW}{J I:aH}{S Z:Th}{s o H Y:aF}{A:bN}{E:aD->aF->Prop}{L:Lc}{z:cP}{i:List aM}{F:dH}{k:Co}{K:PF}{U:List V}{c:aT->Co->Co}{B:List aT}{j:List aX}{d:List V}{N:List aD}
theorem aGO{a b:Nat}(h:a≠b)(x y:V)(L:Lc):lp a x (lp b y L)=lp b y (lp a x L):=by
 induction L generalizing a b with
 |nil=>cases a<;>cases b<;>rfl
 |cons c g k=>induction a using fO with
  |zero=>induction b using fO with
   |zero=>exact aZ rfl h
   |succ b=>rfl
  |succ a=>induction b using fO with
   |zero=>rfl
   |succ b=>exact aN (c::·)<|k λe=>h<|aN _ e
abbrev pt(z:cP)(n:aX):Nat:=nG (key n)<|eD z
def rL(z:cP):List aX->List V->Lc->Lc
 |[]=>λb L=>L
 |n::a=>λd L=>match d with
  |[]=>L
  |v::t=>rL z a t<|lp (pt z n) v L
theorem xd{a:Nat}{x:V}(h:∀n∈j,a≠pt z n):rL z j d (lp a x L)=lp a x (rL z j d L):=by
 induction j generalizing d L with
 |nil=>rfl
 |cons n b c=>induction d using bM with
  |nil=>rfl
  |cons v t=>exact(aN (rL z b t)<|aGO (h n<|.head _).symm v x L).trans<|c λn e=>h n<|.tail _ e
theorem aGC{n:aX}{x:V}(b:j.length=d.length):rL z (j++[n]) (d++[x]) L=lp (pt z n) x (rL z j d L):=by
 induction j generalizing d L with
 |nil=>induction d using bM with
  |nil=>rfl
  |cons=>exact vU b
 |cons m a c=>induction d using bM with
  |nil=>exact tY b
  |cons v t=>exact c<|nP b
theorem aHE(e:j.length=d.length)(h:j.Pairwise λa b=>pt z a≠pt z b):rL z j.reverse d.reverse L=rL z j d L:=by
 induction j generalizing d L with
 |nil=>rfl
 |cons n c g=>induction d using bM with
  |nil=>exact tY e
  |cons v t=>
   have h:=EV.mp h;have e:=nP e;rw[Di,Di,aGC (by exact aE KY (aE KY<|aE e rfl)),g e h.2]
   exact(xd h.1).symm
structure mQ(z:cP)(n:aX):Prop where
 ok:uY n=aB
 k:∃kd,jM (key n) z=aA kd/\DI kd=aB
theorem aMF(l:∀p∈z,fX p.1=aB){a b:aX}(q:mQ z a)(m:mQ z b)(n:a≠b):pt z a≠pt z b:=λe=>by
 have g:∀{c:iL},DI c=aB->c≠ .globalImplicit:=λh e=>by replace h:=e▸h;exact iE h
 obtain⟨k,w,v⟩:=q.k;obtain⟨x,u,s⟩:=m.k;have t:=(Ad l q.ok w<|g v).symm.trans (aN ((eD z)[·]?) e);exact n<|aN Lh<|aV<|t.trans<|Ad l m.ok u<|g s
theorem aHL(p:j.length=d.length)(t:∀n∈j,mQ z n)(b:aJ w J S s)(R:aO w i S s z L F)(a:Rl w S s d N){c:Lc->aH->Prop}(q:c (rL z j d L) J):aL (Md w) A (cz (j.map λn=>bindName F n) N) (λm=>Na w i z F S s c) E s:=by
 induction j generalizing d N L S s with
 |nil=>exact bA<|.mk b (.n7 _ _ _) R q
 |cons n j C=>induction d using bM with
  |nil=>exact tY p
  |cons v d=>
   induction a with| @mk y N x u=>
   have O:=t n<|.head _;obtain⟨M,K,D⟩:=O.k;show aL _ _ (do rI N (bindName F n y);cz (j.map λn=>bindName F n) N) _ E s
   exact aK (fV<|wpAny_bindName<|NN R b x O.ok K D λH l g k=>dP (C (nP p) (λn h=>t n<|.tail _ h) l k ((g.kp R.s4).rl u) q) (λm m n=>n.tr g) λm m e=>e)
inductive pG:List aT->List aX->Prop
 |t8:pG [] []
 |t6 {n:aX} {p:cY} {B:List aT} {j:List aX} (h:pG B j):pG (.Name n p::B) (n::j)
theorem pG.f7(h:pG B j):j.length=B.length:=by
 induction h with
 |t8=>rfl
 |t6 _ a=>exact aN _ a
theorem jw{g:aT->Option aX}(b:∀e n,g e=aA n->∃p,e= .Name n p)(h:(B.filterMap g).length=B.length):pG B (B.filterMap g):=by
 induction B with
 |nil=>exact .t8
 |cons t B a=>cases e:g t with
  |none=>replace h:=(List.filterMap_cons_none e)▸h;exact aZ (h▸List.length_filterMap_le g B)<|aQ3 _
  |some n=>obtain⟨p,c⟩:=b _ _ e;rw[aQ4 e,c]at h⊢;exact .t6 (a<|nP h)
theorem aGT(l:List aX):l.eraseDups.length<=l.length:=by
 have:∀n (l:List aX),l.length<=n->l.eraseDups.length<=l.length:=λn=>by
  induction n with
  |zero=>exactλl h=>by refine aE (Dz<|dz.mp h) ?_;exact bT _
  |succ n e=>exactλl h=>by induction l using bM with
   |nil=>exact bT _
   |cons a l=>have c:=lA (λb=> !b==a) l;refine aE aUJ ?_;exact gZ<|aR (e _<|aR c<|BZ h) c
 exact this _ l (bT _)
theorem xm{l:List aX}(h:l.eraseDups.length=l.length):l.Pairwise (· ≠·):=by
 induction l with
 |nil=>exact .nil
 |cons a l k=>rw[aUJ]at h;have h:=nP h;have c:=lA (λb=> !b==a) l;have e:=qC c<|h▸aGT _;have g:=List.length_filter_eq_length_iff.mp e;rw[aUK.mpr g]at h;exact .cons (λb m q=>by have t:=g b m;rw[q,lW]at t;exact iE t) (k h)
theorem aMM(l:pG B j)(p:d.length=B.length){m:Nat}(h:aS C (vM (cA c z<|m+1) B k) K (d++U) L J):(∀n∈j,mQ z n)/\j.length=d.length/\aS C k K U (rL z j d L) J:=by
 induction l generalizing d L with
 |t8=>induction d using bM with
  |nil=>exact AG (λy h=>(by contradiction)) ⟨rfl,h⟩
  |cons=>exact tY p
 |t6 l t=>induction d using bM with
  |nil=>exact(by contradiction)
  |cons v d=>refine el (show aS C (RU z _ _) K _ L J from h) (λs w h=> ?_) λh=>h.elim;obtain⟨g,h⟩:=iS h;obtain⟨g,x⟩:=bI g;obtain⟨a,b,q⟩:=t (nP p) h;exact⟨λn u=>(dA.mp u).elim (λe=>by rw[e];exact⟨x,s,w,g⟩) (a n),aN _ b,q⟩
theorem aIX{v:V}(h:aS C (.l4 k) K (v::U) L J):aS C k K U L J:=by cases v<;>first|exact h|exact iI h
theorem qQ{c:Type}{b:c->Prop}{a:Option {x:c//b x}}(h:a.isSome=aB):∃x,b x:=(wR.mp h).elim λq e=>⟨q.1,q.2⟩
theorem uD{a b:Bool}{p:Prop}(h:(a||b)=aB)(c:a=aB->p)(g:b=aB->p):p:=((BO ..).mp h).elim c g
noncomputable def Ku(t:aT)(x:eC (Option<|List aX)):Prop:=x=bB aC\/∃B m X j,t= .Tuple B m X/\pG B j/\j.Pairwise (· ≠·)/\x=bB (aA j)
noncomputable abbrev Sw(F:dH)(t e:aT):Prop:=Ku t<|swappedStores [t] e F
theorem Ji{t:aT}{b:Bool}{y:eC (Option<|List aX)}(h:b=aI->Ku t y):Ku t (if b=aB then bB aC else y):=by
 induction b using eT with
 |true=>exact .inl rfl
 |false=>exact h rfl
theorem aON{B:List aT}{m:Nat}{p:cY}{g:aT->Option aX}{b:Bool}{y:eC (Option<|List aX)}(a:∀e n,g e=aA n->∃p,e= .Name n p)(h:((B.filterMap g).length !=B.length||(B.filterMap g).eraseDups.length !=(B.filterMap g).length)=aI)(c:b=aI):
  Ku (.Tuple B m p) (if b=aB then y else bB (aA<|B.filterMap g)):=by
 have h:=QP.mp h;refine aE c ?_;exact .inr ⟨B,m,p,_,rfl,jw a<|bne_eq_false_iff_eq.mp h.1,xm<|bne_eq_false_iff_eq.mp h.2,rfl⟩
theorem aHY{B d:List aT}{m g:Nat}{p c:cY}(k:d.all (constantsAlone 8)=aI):Sw F (.Tuple B m p) (.Tuple d g c):=by
 refine Ji λb=>Ji λb=>Ji λl=>Ji λb=>aON (λe n a=> ?_) l k;induction e using dy with
 |Name h q=>
  change(if _ then aA h else aC)=aA n at a;split at a;exact⟨q,by exact aE (aV a) rfl⟩
  exact nn a
 |_=>exact nn a
theorem aOE{t e:aT}(h:Jo t e=aB):Sw F t e:=by
 refine uD h (λh=>(qQ h).elim λa h=>by refine aE h ?_;exact .inl rfl) λh=>uD h (λh=>(qQ h).elim λa h=>by refine aE h ?_;exact .inl rfl) λh=>uD h (λh=>(qQ h).elim λa h=>by refine aE h ?_;exact .inl rfl) λh=> ?_
 obtain⟨c,h⟩:=bI h;obtain⟨p,g⟩:=qQ c;refine aE g ?_;unfold YV at h;cases b:Gc e with
 |some q=>replace h:=b▸h;refine aE q.2 ?_;exact aHY<|(mL _).mp h
 |none=>replace h:=b▸h;exact uD h (λh=>(qQ h).elim λa h=>by refine aE h ?_;exact .inl rfl) λh=>uD h (λh=>(qQ h).elim λa h=>by refine aE h ?_;exact .inl rfl) λh=>uD h (λh=>(qQ h).elim λa h=>by refine aE h ?_;exact .inl rfl) λh=>uD h (λh=>(qQ h).elim λa h=>by refine aE h ?_;exact .inl rfl) λh=>(qQ h).elim λa h=>by refine aE h ?_;exact .inl rfl
theorem Pw{t:Option aT}{n:Nat}{e:aT}(h:Fz e=aC):swapsWith e t n F=bB aI:=by
 induction e using dy with
 |ListComp=>exact II h
 |SetComp=>exact II h
 |DictComp=>exact II h
 |_=>rfl
end
section
variable{C:cR}{w:aW}{N Y:aH}{B P:Th}{s X p l:aF}{A:bN}{E:aD->aF->Prop}{x y:aD}{a v u:V}{L:Lc}{i:cP}{J:List aM}{f:dH}{k:Co}{K:PF}{U:List V}{c:aT->Co->Co}{j:cY}{H:List (Option aT)}{Z:List aT}{g:List (aD×aD)}{r:List V}{acc:List (V×V)}{D:aM}{b:Bool}{R:V->aH->Prop}
variable{C:cR}{w:aW}{N Y:aH}{B P:Th}{s X p l:aF}{A:bN}{E:aD->aF->Prop}{L:Lc}{i:cP}{J:List aM}{f:dH}{k a b:Co}{K:PF}{d:Nat}{e t:aT}{j:cY}
noncomputable abbrev Ex(w:aW)(A:bN)(J:List aM)(i:cP)(f:dH)(B:Th)(K:PF)(U:kW)(E:aD->aF->Prop)(s:aF):Prop:=aL (Md w) A (exec U f) (Nf w J J i f B s K) E s
theorem RY{m:eC Unit}{T:tH->aF->Prop}(h:aL (Md w) A m (λa=>Na w J i f P X<|aS C k K []) E X)(G:Gd J B s P X)(q:∀l,Nf w J J i f B s (rU (aS C k K) K) .next l->T .next l):aL (Md w) A m (λa=>T .next) E X:=
 FM h λl a a a c d b h=>q l<|.mk (fl:= .e9) c (G.j3 d) b rfl h
theorem Gf(hA:Ar d A)(hE:eV C w A i (cE i 10))(hn:oP t=aB)(hp:Jo t e=aB)(hs:swapsWithSole [t] e j.line f=bB aI)(h:aS C (cE i 10 e<|cA (cE i 10) i 3 t k) K [] L N)(I:aJ w N B s)(R:aO w J B s i L f):
  Ex w A J i f B (rU (aS C k K) K) (.Assign [t] e j) E s:=by
 rcases aOE (F:=f) hp with hw|⟨ts,m,tp,ns,et,hN,hd,hw⟩
 ·refine wpAny_Assign_stores (Nx.go (hE h I R) λx p v F M o c u b=> ?_) hs hw;refine aE ((yF hn).a) ?_;exact RY (HM hA hE 3 b o (R.gd I c) u) c.t9 λq9 n=>n
 ·rw[et]at h hs hw⊢;refine Assign_Tuple_swapped (Nx.go (hE h I R) λx p v F M o c u b=> ?_) hs hw;induction b with|of hu b=>
  have a:=xV b;have y:=hN.f7;refine ZP hA.v8 o u (y.symm▸hu) λys l hl T D Q=> ?_;obtain⟨O,z,q⟩:=aMM (U:=[]) hN (hl.trans y) a.r;have S:=(R.gd I c).gd o D;refine RY (k:=k) (K:=K) (aHL (by(refine aE KY ?_;refine aE KY ?_);exact z) (λn h=>O n<|Lz.mp h) T S (F2.w7 Q) ?_) (c.j3 D).t9 λq9 n=>n
  refine aE (aHE z<|hd.imp_of_mem λha hb n=>aMF R.i0 (O _ ha) (O _ hb) n) ?_;exact q
theorem aE7(S:oT w)(hC:sE C w d)(u:Ar d A)(h:aS C (hM (oP t&&((Fz e).isNone||(PM e).isSome)&&Jo t e)<|cE i 10 e<|cA (cE i 10) i 3 t k) K [] L N)(I:aJ w N B s)(R:aO w J B s i L f):
  Ex w A J i f B (rU (aS C k K) K) (.Assign [t] e j) E s:=by
 have D:= @lB.e _ _ _ _ (FA S @hC u 10) i;obtain⟨q,h⟩:=iS h;obtain⟨q,v⟩:=bI q;obtain⟨z,M⟩:=bI q;refine uD M (λM=>Gf u @D z v (Pw<|ed.mp M) h I R) λM=> ?_;obtain⟨⟨elt,x,n,cp⟩,e1⟩:=qQ M;rw[e1]at v h⊢;refine uD (id v) (λo=> ?_) λo=>uD o (λo=>(qQ o).elim λq9 y=>Gf u @D z v (by refine aE y ?_;rfl) h I R) λo=>uD o (λo=>(qQ o).elim λq9 y=>Gf u @D z v (by refine aE y ?_;rfl) h I R) λo=>(qQ (bI o).1).elim λq9 y=>Gf u @D z v (by refine aE y ?_;rfl) h I R
 obtain⟨⟨id,py⟩,y⟩:=qQ o;rw[y]at z v h⊢;have Q:∃b,swapsWith (.ListComp elt x n cp) (aA<|.Name id py) j.line f=bB b:=⟨_,rfl⟩;obtain⟨b,Q⟩:=Q;induction b using eT with
 |false=>exact Gf u @D z v Q h I R
 |true=>
  induction x using bM with
  |nil=>exact iI h
  |cons m rest=>obtain⟨t,it,ifs,a⟩:=m;obtain⟨q,hr⟩:=iS h;obtain⟨q,h2⟩:=bI q;obtain⟨q,h3⟩:=bI q;obtain⟨q,h4⟩:=bI q;have ea:=jX q;have E9:=FA S @hC u 9;rw[show a=0 from ea]at Q⊢;exact uw (x:=cA (cE i 10) i 3) (c:=cE i 9) (o:=cE n.names 9) (T:=cT n.names 9) (HM u D 3) (.mk (@lB.e _ _ _ _ E9 _) (@lB.e _ _ _ _ E9 _) (@lB.t _ _ _ _ E9 _)) u h4 h3 h2 Q hr I R
theorem Xx(R:aO w J B s i L f):interactive f=aI:=by unfold interactive;refine aE R.n5 ?_;rfl
theorem aDL(o:eV C w A i (cE i 10))(h:aS C (hM (Fz e).isNone<|cE i 10 e<|.l4 k) K [] L N)(I:aJ w N B s)(R:aO w J B s i L f):Ex w A J i f B (rU (aS C k K) K) (.Expr e j) E s:=by obtain⟨q,h⟩:=iS h;refine wpAny_Expr_any (Nx.go (o h I R) λx p v d m c a n b=> .mk (fl:= .e9) c a.t9 (R.gd I a) rfl (aIX b)) (Xx R)<|Pw<|ed.mp q
theorem UZ{x v:List kW}(F:wA C w A i (cT i 10))(D:Ec C w A i a x)(y:Ec C w A i b v)(h:aS C (cT i 10 t a b) K [] L N)(I:aJ w N B s)(R:aO w J B s i L f):Ex w A J i f B K (.If t x v j) E s:=by
 refine wpAny_If (wF (F h I R) λz p q u m c d=> ?_);have k:=R.gd I c;induction z using eT with
 |true=>exact dP (D d m k) (λo o n=>n.tr c.t9) λo o e=>e
 |false=>exact dP (y d m k) (λo o n=>n.tr c.t9) λo o e=>e
theorem Zy(S:oT w)(hC:sE C w d)(D:Ar d A)(n:Nat)(z:List kW):Ec C w A i (cS i n z) z:=by
 have hE:= @lB.e _ _ _ _ (FA S @hC D 10) i;have T:= @lB.t _ _ _ _ (FA S @hC D 10) i;induction n generalizing z with
 |zero=>intro _ _ _ _ _ _ _ _ h;exact iI h
 |succ n m=>
  intro J f K L N B s E h I R;induction z using bM with
  |nil=>exact dc<|.mk (fl:= .e9) I (.n7 _ _ _) R rfl h
  |cons U a=>
   have c:= @m a;induction U using aUL with
   |Expr e j=>exact Bc (aDL @hE h I R) c
   |Pass j=>exact Bc (wpAny_Pass<|.mk (fl:= .e9) I (.n7 _ _ _) R rfl h) c
   |Return v j=>induction v using jP with
    |none=>exact Bc (wpAny_Return_none<|.mk (fl:= .b8 .h9) I (.n7 _ _ _) R ⟨_,rfl,rfl⟩ h) c
    |some e=>exact Bc (wpAny_Return_some<|Nx.go (hE h I R) λx p v F M y k q u=> .mk (fl:= .b8 v) y k.t9 (R.gd I k) ⟨_,rfl,q⟩ u) c
   |Assign Q e j=>induction Q using bM with
    |nil=>exact iI h
    |cons t Q=>induction Q using bM with
     |nil=>exact Bc (aE7 S @hC D h I R) c
     |cons=>exact iI h
   |If t b o j=>induction a using bM with
    |nil=>exact px<|UZ @T (@m b) (@m o) h I R
    |cons=>exact Bc (UZ @T (@m b) (@m o) h I R) c
   |For t it b o j=>induction o using bM with
    |nil=>exact Bc (aPG D @hE (@m b) h I R) c
    |cons=>exact iI h
   |While t b o j=>induction o using bM with
    |nil=>exact Bc (ip @T (@m b) h I R) c
    |cons=>exact iI h
   |_=>exact iI h
end
section
variable{C:cR}{w:aW}{i z:aH}{F Z:Th}{s f X Y:aF}{A:bN}{E:aD->aF->Prop}{x y:aD}{a v u:V}{L:Lc}{U:cP}{l:List aM}{P:dH}{k:Co}{K:PF}{d:List V}{c:aT->Co->Co}{N:cY}{r:List (Option aT)}{I:List aT}{S:List (aD×aD)}{e:List V}{acc:List (V×V)}{D:aM}{b:Bool}{R:V->aH->Prop}
variable{w:aW}{g:Nat}{H:Fn}{B:uQ}{S J:List aX}{I:List V}{j:List aD}{L:Lc}{U:cP}{K:sG}
structure dC(w:aW)(g:Nat)(H:Fn)(B:uQ):Prop where
 J5:∃o,(KK w).lookup (fA g)=aA o/\o.data= .func B
 A4:B.body= .stmts H.A4
 i0:B.scope.names=H.i0
 M9:CV B.scope=aB
 N5:B.params.args.map (·.arg)=H.r6
 O2:B.params.posonlyargs=[]
 S0:B.params.kwonlyargs=[]
 va:B.params.vararg=aC
 R2:B.params.kwarg=aC
 df:B.defaults= .none
 gl:B.globals=qY
 bi:B.builtins=Df
 co:B.scope.isCoroutine=aI
 R4:B.scope.isGenerator=aI
 pl:((eD H.i0).take H.r6.length).map (·.1)=H.r6
 x0:∀p∈H.r6,mQ H.i0 p
 nd:EC H.r6=aB
 J4:∃c o I t,B.code= .ref c/\(KK w).lookup c=aA o/\o.data= .fields I/\I[1]? =aA (.str B.qualname t)
 cl:∀p∈B.closure,(p.1,tN)∈H.i0/\∃o,(KK w).lookup p.2=aA o
 fr:∀n,(n,tN)∈H.i0->∃c,(n,c)∈B.closure
 p9:B.closure.length<=1
theorem YG{o:dE}{a:uQ->Bool}(h:Cs o aI a=aB):∃B,o.data= .func B/\a B=aB:=by
 unfold Cs at h;generalize o.data=b at h;induction b using ee with
 |func B=>exact⟨B,rfl,h⟩
 |_=>exact aZ h cC
theorem Ob{v:aD}{b:aM->Bool}(h:Io v b=aB):∃a,v= .ref a/\b a=aB:=by
 induction v using aQ5 with
 |ref a=>exact⟨a,rfl,h⟩
 |_=>exact aZ h cC
theorem TW{o:dE}{b:Nat}{a:aX->Bool}(h:Je o b a=aB):∃I x t,o.data= .fields I/\I[b]? =aA (.str x t)/\a x=aB:=by
 unfold Je at h;generalize o.data=c at h;induction c using ee with
 |fields I=>
  dsimp only at h;cases g:I[b]? with
  |none=>rw[g]at h;exact aZ h cC
  |some v=>
   rw[g]at h;induction v using aQ5 with
   |str x t=>exact⟨I,x,t,rfl,g,h⟩
   |_=>exact aZ h cC
 |_=>exact aZ h cC
theorem aMZ{v:aD}(h:YQ v=aB):v= .none:=by
 induction v using aQ5 with
 |none=>rfl
 |_=>exact aZ h cC
theorem So(hg:(iG g qO).isSome=aB):∃H B,Jp g=aA H/\dC w g H B:=by obtain⟨a,ha⟩:=wR.mp hg;have R:=xJ ha;have M:=(xT w).bd _ R;obtain⟨H,T,h⟩:=uU ((xT w).fn _ R).1;obtain⟨o,Q,h⟩:=uU h;obtain⟨B,hd,h⟩:=YG h;obtain⟨c1,h⟩:=bI h;obtain⟨c2,h⟩:=bI h;obtain⟨c3,h⟩:=bI h;obtain⟨c4,h⟩:=bI h;obtain⟨c5,h⟩:=bI h;obtain⟨c6,h⟩:=bI h;obtain⟨c7,h⟩:=bI h;obtain⟨c8,h⟩:=bI h;obtain⟨c9,h⟩:=bI h;obtain⟨L,h⟩:=bI h;obtain⟨K,h⟩:=bI h;obtain⟨E,h⟩:=bI h;obtain⟨D,h⟩:=bI h;obtain⟨C,h⟩:=bI h;obtain⟨A,h⟩:=bI h;obtain⟨y,h⟩:=bI h;obtain⟨v,h⟩:=bI h;obtain⟨u,s⟩:=bI h;refine⟨H,B,T,⟨o,Q,hd⟩,?_,jX c1,c2,jX c3,LA.mp c4,LA.mp c5,ed.mp c6,ed.mp c7,aMZ c8,iQ c9,iQ L,(mL _).mp K,(mL _).mp E,jX D,λp m=> ?_,A,?_,λp m=> ?_,λn hn=> ?_,bV s⟩;unfold Em Ei at M;rw[Q,T]at M;refine Eq.trans ?_ M;show _=Cs o qX (·.body);unfold Cs;exact aE hd rfl;obtain⟨a,b⟩:=bI<|cX.mp C p m;exact⟨a,uU b⟩;obtain⟨c,e1,h⟩:=Ob y;obtain⟨oc,e2,h⟩:=uU h;obtain⟨I,x,t,e3,e4,h⟩:=TW h;exact⟨c,oc,I,t,e1,e2,e3,jX h▸e4⟩;obtain⟨a,b⟩:=bI<|cX.mp v p m;exact⟨List.contains_iff_mem.mp a,wR.mp b⟩;refine uD (cX.mp u _ hn) (λh=>iZ (show(!aB)=aB from h)) λh=> ?_;obtain⟨q,hq,k⟩:=Ho.mp h;exact⟨q.2,(show q.1=n from jX k)▸hq⟩
theorem jf{a:aX}{c:List aX}(h:EC (a::c)=aB):(∀b∈c,(b==a)=aI)/\EC c=aB:=by obtain⟨m,k⟩:=bI h;exact⟨λb g=>by refine aE BEq.comm ?_;exact(mL _).mp<|cX.mp m b g,k⟩
theorem aJK{m n:Type}{c:List m}{k g:m->Option n}(h:∀a∈c,k a=g a):c.filterMap k=c.filterMap g:=by
 induction c with
 |nil=>rfl
 |cons a c o=>exact aE LC<|aE LC<|aE (h a<|.head _)<|aE (o λb p=>h b<|.tail _ p) rfl
theorem aE5(u:EC J=aB)(o:J.length=j.length):(∀n∈J,∃v,(J.zip j).lookup n=aA v)/\J.filterMap (λn=>((J.zip j).lookup n).map λv=>(n,v))=J.zip j:=by
 induction J generalizing j with
 |nil=>exact AG (λy h=>(by contradiction)) rfl
 |cons a g q=>
  induction j using bM with
  |nil=>exact tY o
  |cons v j=>
   obtain⟨x,w⟩:=jf u;obtain⟨t,s⟩:=q w<|nP o;have m:∀n∈g,(((a,v)::g.zip j).lookup n)=(g.zip j).lookup n:=λn k=>by exact aE KP (aE (x n k) rfl)
   have p:((a,v)::g.zip j).lookup a=aA v:=List.lookup_cons_self;refine⟨λn k=>(dA.mp k).elim (λc=>⟨v,by refine aE c ?_;exact p⟩) λk=>by(refine aE aQ6 ?_;refine aE (m n k) ?_);exact t n k,?_⟩
   rw[aQ6,aQ4 (b:=(a,v)) (by refine aE p ?_;rfl)]
   exact aN _ ((aJK λn k=>by exact aE (m n k) rfl).trans s)
theorem aK7{B:uQ}{g:PySem.Arguments}{k:List aX}{j:List aD}(w:g.posonlyargs=[])(y:g.kwonlyargs=[])(u:g.vararg=aC)(t:g.kwarg=aC)(C:g.args.map (·.arg)=k)(A:B.defaults= .none)
  (p:¬j.length>k.length) (x:(k.take k.length).filter (λn=>((k.zip j).lookup n).isNone)=[]) (b:k.filterMap (λn=>((k.zip j).lookup n).map λv=>(n,v))=k.zip j) (E:B.params=g):bindArgs B ⟨j,[]⟩=bB (k.zip j):=by
 obtain⟨nm,M,q,bo,U,gl,cl,df,kd,K,T,an,cd,ct,bi⟩:=B;subst E A;obtain⟨R,m,L,ko,s,kw,dd⟩:=q;subst w y u t C;have D:∀n,aQ7 n ([]:List aD)=[]:=λQ=>ZZ;refine(bH<|λh=>p<|bQ (sK.mp h).1).trans<|(bH λh=> ?_).trans ?_
 ·have o:∀c:List aD,c=[]->((m.map (·.arg)).take ((m.map (·.arg)).length-c.length)).filter (λn=>(((m.map (·.arg)).zip j).lookup n).isNone)=[]:=λc a=>by refine aE a ?_;exact x
  have h:(!(((m.map (·.arg)).take ((m.map (·.arg)).length-(aQ7 _ ([]:List aD)).length)).filter (λn=>(((m.map (·.arg)).zip j).lookup n).isNone)).isEmpty)=aB:=h;replace h:=(o _<|D _)▸h;exact cC h
 ·show(jD (List.zip _<|aQ7 _ []) _ _>>=_)=_
  (refine aE ZZ ?_;refine aE List.zip_nil_right ?_)
  show(bB ((m.map Arg.arg++[]).filterMap _):eC (List<|aX×aD))=_;rw[fS];exact aN (bB:_->eC (List<|aX×aD)) b
theorem vh(a:dC w g H B)(c:H.r6.length=j.length):bindArgs B ⟨j,[]⟩=bB (H.r6.zip j):=by
 obtain⟨k,h⟩:=aE5 (j:=j) a.nd c;have p:(H.r6.take H.r6.length).filter (λn=>((H.r6.zip j).lookup n).isNone)=[]:=by rw[oO,eh];exactλn o=>by obtain⟨v,m⟩:=k n o;rw[m];exact cC
 have b:¬j.length>H.r6.length:=eI.mpr<|bW c.symm;exact aK7 a.O2 a.S0 a.va a.R2 a.N5 a.df b p h rfl
theorem lr{M b:Lc}{o:Option V}{v:V}:lp M.length v (M++o::b)=M++aA v::b:=by
 induction M with
 |nil=>rfl
 |cons a M c=>exact aN (a::·) c
theorem uf{M:Lc}{m:Nat}(h:∀a p,S[a]? =aA p->pt U p=M.length+a)(c:S.length=I.length)(g:I.length<=m):rL U S I (M++KL m aC)=M++CC m I:=by
 induction S generalizing I M m with
 |nil=>induction I using bM with
  |nil=>rfl
  |cons=>exact vU c
 |cons p S k=>induction I using bM with
  |nil=>exact tY c
  |cons v I=>induction m using fO with
   |zero=>exact aZ g<|aQ8 _
   |succ m=>
    show rL U S I (lp (pt U p) v (M++aC::KL m aC))=M++aA v::CC m I;rw[h 0 p rfl,Nat.add_zero,lr];have:=k (M:=M++[aA v]) (m:=m) (λa q b=>by rw[h (a+1) q b,cM,kX,kY a 1];rfl) (nP c) (BZ g)
    rw[dK,dK]at this;exact this
end
section
variable{C:cR}{w:aW}{U r:aH}{B Y:Th}{s z N t:aF}{A:bN}{E:aD->aF->Prop}{x y:aD}{a v u:V}{L:Lc}{S:cP}{X:List aM}{J:dH}{k:Co}{K:PF}{n:List V}{c:aT->Co->Co}{I:cY}{e:List (Option aT)}{H:List aT}{P:List (aD×aD)}{o:List V}{acc:List (V×V)}{D:aM}{b:Bool}{R:V->aH->Prop}
variable{C:cR}{w:aW}{U r:aH}{B Y:Th}{s z N t:aF}{A:bN}{E:aD->aF->Prop}{x y:aD}{v u:V}{L:Lc}{S:cP}{X:List aM}{J:dH}{k:Co}{K:PF}{n H:List V}{d g:Nat}{j:Fn}{f:uQ}{P:List aX}{xs:List aD}{a Z:aM}
theorem aG3(m:P.length=H.length)(u:∀p∈P,mQ S p)(b:aJ w U B s)(R:aO w X B s S L J)(a:Rl w B s H xs){Q:PUnit->aF->Prop}(q:∀z,aJ w U B z->Gd X B s B z->aO w X B z S (rL S P H L) J->Q .unit z):
  aL (Md w) A (jD (P.zip xs) ei λ(x:aX×aD) (Z:PUnit)=>(do storeName J x.1 x.2;bB (.yield ei):eC (ForInStep PUnit))) Q E s:=by
 induction P generalizing H xs L s with
 |nil=>(refine aE List.zip_nil_left ?_;refine aE aQR ?_);exact bA<|q s b (.n7 _ _ _) R
 |cons p P F=>induction H using bM with
  |nil=>exact tY m
  |cons v H=>
   induction a with| @mk y T D C=>
   have O:=u p<|.head _;obtain⟨kd,M,K⟩:=O.k;rw[aQ6,Lr];exact aK<|aK<|NN R b D O.ok M K λN k c g=>bA<|F (nP m) (λp h=>u p<|.tail _ h) k g ((c.kp R.s4).rl C) λt i l d=>q t i (c.j3 l) d
theorem dC.pt(F:dC w g j f){i:Nat}{p:aX}(a:j.r6[i]? =aA p):pt j.i0 p=i:=by
 have l:=F.x0 _<|fT a;obtain⟨x,m,h⟩:=l.k;have k:AN j.i0=aB:=F.i0▸(bI F.M9).2;have v:=Ad (λp s=>(Ea k p s).n) l.ok m λa=>by rw[a]at h;exact iE h
 have d:(((eD j.i0).take j.r6.length).map (·.1))[i]? =aA p:=by rw[F.pl];exact a
 replace d:=(jW)▸d;obtain⟨q,c,u⟩:=om d;rw[aUM]at c;split at c;exact aa λb=>VG k v c b u.symm;exact nn c
theorem dC.P3(F:dC w g j f)(b:j.r6.length=H.length):rL j.i0 j.r6 H (KL (eD j.i0).length aC)=CC (eD j.i0).length H:=
 uf (M:=[]) (λi p a=>(F.pt a).trans (jH i).symm) b (by have:=aN EH F.pl;rw[bP,List.length_take]at this;exact b▸this▸aUN _ _)
noncomputable abbrev sW(f:uQ)(Z a:aM):dH:=newEnv f.scope Z f.globals (Hx (Z+1) f.scope.names f.closure) (f.qualname++ ".<locals>.") (aA a) f.code aC f.builtins
noncomputable abbrev AL:dE:={cls:= .type "frame",data:= .dict #[]}
theorem aCM{b:List (aX×aD)}{Q:dH->aF->Prop}
  (h:aL (Md w) A (jD b ei λ(x:aX×aD) (g:PUnit)=>(do storeName (sW f s.heap.objs.size a) x.1 x.2;bB (.yield ei):eC (ForInStep PUnit))) (λg t=>Q (sW f s.heap.objs.size a) t) E {s with heap:=BW (s.heap.push AL) f.scope.names}):
  aL (Md w) A (QI f.scope f.globals f.closure b (f.qualname++ ".<locals>.") (aA a) f.code aC f.builtins) Q E s:=by
 simp only[QI,Option.isSome_none,Hv,if_false];refine aK<|aQZ ?_;refine aK (wpAny_layCells _ (λl c k=>by cases i:c==di<;>simp[i]) _ _ _ _ ?_)
 refine aE (show({s with heap:=s.heap.push {cls:= .type "frame",data:= .dict #[]}}:aF).heap.objs.size=s.heap.objs.size+1 from lH ..) ?_
 exact aK (dP h (λg t d=>bA d) λg g x=>x)
theorem Vt(i m:Nat):lg i (KL m aC)=aC:=by
 induction m generalizing i with
 |zero=>cases i<;>rfl
 |succ m a=>induction i using fO with
  |zero=>rfl
  |succ i=>exact a i
structure qP(w:aW)(B:Th)(s z:aF)(f:uQ)(j:Fn)(a:aM)(l:List aM):Prop where
 g:aU s z
 lo:∀x∈l,s.heap.objs.size<=x
 hi:∀x∈l,x<z.heap.objs.size
 R:aO w l (B.j5 l) z j.i0 (KL (eD j.i0).length aC) (sW f s.heap.objs.size a)
 R3:∀nm c,(sW f s.heap.objs.size a).cells.lookup nm=aA c->(nm,tN)∈j.i0->(nm,c)∈f.closure
theorem aG7(F:dC w g j f)(m:aJ w U B s)(a:aM):∃l,qP w B s {s with heap:=BW (s.heap.push AL) f.scope.names} f j a l:=by
 have Q:=F.M9;obtain⟨hk,K⟩:=bI Q;replace K:=F.i0▸K;have hkf:f.scope.kind= .function:=by cases hs:f.scope.kind<;>first|rfl|(replace hk:=hs▸hk;exact aZ hk cC)
 have R:∀p∈f.closure,p.2<s.heap.objs.size:=λp Z=>((F.cl p Z).2).elim λb h=>iF<|m.X _ _ h;have C:(s.heap.push AL).objs.size=s.heap.objs.size+1:=lH ..;have y:=ZK (h:=s.heap.push AL) (b:=j.i0) (acc:=f.closure) (λq n' c h h'=>by
  have b:=F.p9;generalize f.closure=l at h h' b;induction l using bM with
  |nil=>exact(by contradiction)
  |cons p k=>induction k using bM with
   |nil=>exact(dX<|(dU.mp h).trans (dU.mp h').symm).1
   |cons=>exact aZ b (by exactλh=>nomatch BZ h)) λq c h=>cO (R _ h)<|C▸jC _
 refine aE F.i0 ?_;generalize u:({s with heap:=BW (s.heap.push AL) j.i0}:aF)=z
 have e':z.heap=BW (s.heap.push AL) j.i0:=by exact eJ u rfl
 (replace y:=(e').symm▸y;replace y:=C▸y)
 have T:s.heap.objs.size+1<=z.heap.objs.size:=C▸y.i9;have kp:∀{a b},(s.heap.push AL).get? a=aA b->z.heap.get? a=aA b:=λh=>e'▸aQX _ _ _ _ h;have g:aU s z:=⟨λa b h=>kp<|fC _ h,EU T,by rw[←u],by exact eJ u rfl⟩
 obtain⟨kz,hz⟩:=Ly<|EU T;have E:∀{a},a∈QK s.heap.objs.size kz↔s.heap.objs.size<=a/\a<z.heap.objs.size:=λ{a}=>by refine aE hz ?_;exact aT7
 refine⟨QK s.heap.objs.size kz,g,λx h=>(E.mp h).1,λx h=>(E.mp h).2,?_,λA c h M=> ?_⟩;rotate_left;change(Hx (s.heap.objs.size+1) f.scope.names f.closure).lookup A=aA c at h;replace h:=F.i0▸h;exact(y.j6 A c<|EM h).resolve_right λL=>aZ (HY K M L.1) (by decide)
 refine UH (h:=s.heap.push AL) K (J:=f.closure) ⟨λi D D D D=>Vt i _,λi A h=>⟨F.fr A (DO<|fT h).1,λc v D d=>nn<|(Vt i _).symm.trans d⟩,λq c h=>⟨(F.cl _ h).1,R _ h⟩⟩ hkf (λA kd M L=> .inl ?_) F.gl F.bi g (λx h=>(E.mp h).1) (λD h=>h) (E.mpr ⟨bT _,T⟩) ?_ (bT _) ?_ (by refine aE C ?_;exact jY _) λc M L=>E.mpr ⟨aR (by refine aE C ?_;exact jC _) M,L⟩
 show f.scope.names.lookup A=_;refine aE F.i0 ?_;exact(Iq (λp Z=>(Ea K p Z).n) M L).2;exact(aT9 s.heap<|.type "frame").keeps λa b h=>kp h;show CI _ _ _ _ (Hx (s.heap.objs.size+1) f.scope.names f.closure);refine aE F.i0 ?_;exact y
end
section
variable{C:cR}{w:aW}{J P:aH}{B j:Th}{s F Y Z:aF}{A:bN}{E:aD->aF->Prop}{x y:aD}{a v u:V}{L:Lc}{sc:cP}{X:List aM}{t:dH}{k:Co}{K:PF}{z:List V}{c:aT->Co->Co}{i:cY}{g:List (Option aT)}{d:List aT}{I:List (aD×aD)}{e:List V}{acc:List (V×V)}{D:aM}{b:Bool}{R:V->aH->Prop}
variable{w:aW}{J P:aH}{B j:Th}{s F:aF}{x:aD}{v u:V}{n f:Nat}{Q R:V->aH->Prop}{l H:List V}{m S:List (V×V)}{xs:List aD}{U:List fB}{o:O}{q:aM×aM}
structure Ct(n:Nat)(B j:Th):Prop where
 N:∀a,B.N a->j.N a
 r:∀(p:Nat) (q q':aM×aM),B.ρ[p]? =aA q->j.ρ[p]? =aA q'->q=q'
 lt:∀(p:Nat) (q:aM×aM),p<n->j.ρ[p]? =aA q->B.ρ[p]? =aA q
 ge:∀(p:Nat) (q:aM×aM),n<=p->j.ρ[p]? =aA q->¬B.N q.1
mutual
theorem Ct.rv(a:Ct n B j):∀{v:V} {x q:aD},Rv w B s v x->Rv w j F v q->Rv w B F v q
 | .h9,_,_,_,r=>r
 | .e8 _,_,_,_,r=>r
 | .a5 _,_,_,_,r=>r
 | .d9 _,_,_,_,r=>r
 | .a8 _,_,_,r,c=>by induction r with|mk _ _ _ o=>induction c with|mk m k p f=>exact .mk m (λh=>k<|a.N _ h) p (Ct.x8 a o f)
 | .a7 _,_,_,r,c=>by induction r with|mk _ _ _ o=>induction c with|mk m k p f=>exact .mk m (λh=>k<|a.N _ h) p (Ct.x8 a o f)
 | .b7 _,_,_,r,c=>by induction r with|mk b _=>induction c with|mk l k=>exact .mk ⟨l.g,l.h3,l.hl,l.nd,Ct.E8 a b.hs l.hs⟩ λh=>k<|a.N _ h
 | .a9 _,_,_,r,c=>by induction r with|mk h=>induction c with|mk u=>exact a.r _ _ _ h u▸ .mk h
theorem Ct.x8(c:Ct n B j):∀{l:List V} {xs f:List aD},yN w B s l xs->yN w j F l f->yN w B F l f
 |[],_,_,_,r=>r
 |_::_,_,_,r,h=>by induction r with|mk a b=>induction h with|mk m k=>exact .mk (Ct.rv c a m) (Ct.x8 c b k)
theorem Ct.E8(c:Ct n B j):∀{l:List (V×V)} {xs f:List fB},Av w B s l xs->Av w j F l f->Av w B F l f
 |[],_,_,_,r=>r
 |(_,_)::_,_,_,r,k=>by induction r with|mk a b=>induction k with|mk h m=>exact .mk ⟨Ct.rv c a.k h.k,Ct.rv c a.v h.v,h.h,h.c⟩ (Ct.E8 c b m)
end
theorem Ct.rf(f:Ct n B j){c:Nat}{k:List (Nat×V)}{U h:List fB}(r:F2 (Rf w B s c) k U)(m:F2 (Rf w j F c) k h):F2 (Rf w B F c) k h:=by
 induction k generalizing U h with
 |nil=>exact m
 |cons p k o=>induction r with|mk a b=>induction m with|mk l q=>exact .mk ⟨l.nm,l.k0,l.ok,f.rv a.v l.v⟩ (o b q)
theorem Ct.ro(f:Ct n B j)(r:Ro w B s o q)(p:Ro w j F o q):Ro w B F o q:=by
 induction o using O.casesOn with
 |a7 l=>induction r with|mk _ _ _ k=>induction p with|mk a b m h=>exact .mk a b m (GH l▸f.x8 (GH l▸k) (GH l▸h))
 |b7 l=>induction r with|mk _ _ _ _ k _=>induction p with|mk a b m u h v=>exact .mk a b m u (HH l▸f.E8 (HH l▸k) (HH l▸h)) v
 |g9 c A=>induction r with|mk _ _ _ _ _ k=>induction p with|mk a x b y m h=>exact .mk a x b y m (f.rf k h)
theorem zn(h:(iC v||gP v)=aB)(r:Rv w j s v x)(f:Ct n B j):Rv w B s v x:=by
 induction v using V.casesOn with
 |d9=>exact r
 |a8 l=>
  rw[qT]at r⊢;induction r with|mk k o p m=>
  refine .mk k (λh=>o<|f.N _ h) p (m.j4 λa q b r=> ?_);have c:=cX.mp h a q;induction a using V.casesOn with
  |a5=>exact r
  |d9=>exact r
  |_=>exact aZ c cC
 |_=>exact aZ h cC
theorem PQ{k:V->Option V}(q:∀{v u x},k v=aA u->Rv w j s v x->Rv w B s u x)(h:zX k l=aA H)(r:Rl w j s l xs):Rl w B s H xs:=by
 induction l generalizing H xs with
 |nil=>(injection h with o;subst o);exact r
 |cons a l p=>obtain⟨b,A,h⟩:=ob h;obtain⟨f,y,c⟩:=om h;refine eJ c ?_;induction r with|mk n m=>exact .mk (q A n) (p y m)
theorem Vk{k:V->Option V}(o:Ct n B j)(D:∀{v u x},k v=aA u->Rv w j s v x->Rv w B s u x)(h:Bi k m=aA S)(r:F2 (Rd w j s) m U):F2 (Rd w B s) S U/\S.map (·.1)=m.map (·.1):=by
 induction m generalizing S U with
 |nil=>(injection h with C;subst C);exact⟨r,rfl⟩
 |cons a l y=>obtain⟨b,E,h⟩:=ob h;obtain⟨f,A,c⟩:=om h;refine eJ c ?_;induction r with|mk p q=>exact⟨.mk ⟨zn p.c p.k o,D E p.v,p.h,p.c⟩ (y A q).1,aN (_::·) (y A q).2⟩
theorem Vp(c:S.map (·.1)=m.map (·.1))(h:zW m):zW S:=
 (AE (f:=λp:V×V=>p.1) (R:=λa b=>cN a b=aI)).mp (c▸(AE (f:=λp:V×V=>p.1) (R:=λa b=>cN a b=aI)).mpr h)
theorem zv(m:aJ w J j s)(y:Ct n B j)(f:Nat):∀{v u x},gG J n f v=aA u->Rv w j s v x->Rv w B s u x:=by
 induction f with
 |zero=>exactλh=>nn h
 |succ f K=>
  intro v u x h r;induction v using V.casesOn with
  |a9 p=>
   induction r with| @mk q M=>
   change(match mX p n with|true=>_|false=>_)=_ at h
   cases c:mX p n with
   |true=>replace h:=c▸h;refine eJ (aV h) ?_;exact RR.mk<|y.lt p q (bV c) M
   |false=>
    replace h:=c▸h;have T:=y.ge p q (eI.mp λl=>by replace c:=(show mX p n=aB from aUO l)▸c;exact iE c) M
    cases Q:J[p]? with
    |none=>replace h:=Q▸h;exact nn h
    |some o=>
     replace h:=Q▸h;have R:=m.w6 p o q Q M;induction o using O.casesOn with
     |a7 l=>
      obtain⟨H,C,c⟩:=om h
      (refine eJ c ?_;refine aE vZ ?_)
      induction R with|mk _ k E D=>exact .mk (.mk k rfl rfl rfl) T E (PQ K C D)
     |b7 l=>
      obtain⟨H,C,c⟩:=om h
      (refine eJ c ?_;refine aE uK ?_)
      induction R with|mk _ k E nd D _=>
      obtain⟨a,b⟩:=Vk y K C D;exact .mk ⟨⟨_,k⟩,(m.u3 _<|.inl (Au M).1).2,E,Vp b nd,a⟩ T
     |_=>exact nn h
  |a8 l=>
   obtain⟨H,C,c⟩:=om h;replace r:=qT▸r
   (refine eJ c ?_;refine aE qT ?_)
   induction r with|mk N L E D=>exact .mk N (λh=>L<|y.N _ h) E (PQ K C D)
  |a7 l=>
   obtain⟨H,C,c⟩:=om h;replace r:=vZ▸r
   (refine eJ c ?_;refine aE vZ ?_)
   induction r with|mk N L E D=>exact .mk N (λh=>L<|y.N _ h) E (PQ K C D)
  |b7 l=>
   obtain⟨H,C,c⟩:=om h;replace r:=uK▸r
   (refine eJ c ?_;refine aE uK ?_)
   induction r with|mk A L=>
   obtain⟨a,b⟩:=Vk y K C A.hs;exact .mk ⟨A.g,A.h3,A.hl,Vp b A.nd,a⟩ λh=>L<|y.N _ h
  |h9=>exact aV h▸r
  |e8=>exact aV h▸r
  |a5=>exact aV h▸r
  |d9=>exact aV h▸r
theorem aGW(f:aJ w J B s)(h:Nx w B s (JP J Q) x F):Nx w B s Q x F:=by
 induction h with| @mk v P j n G r q=>
 obtain⟨⟨ext,ex⟩,u,hu,A⟩:=q;obtain⟨b,T⟩:=G.o9;have k:=f.f7;have m:Ct J.length B j:=by
  refine⟨λa h=>h.imp (λK=>K.elim λq L=>L.elim λA M=>⟨q,T▸rG _ A,M⟩) λh=>G.fr▸h,λp q N h h'=> ?_,λp q l h=> ?_,λp q l h hn=> ?_⟩;exact aV<|(G.k0.r p q h).symm.trans h'
  ·(replace h:=T▸h;replace h:=(rC<|k▸l)▸h);exact h
  refine hn.elim (λD=>D.elim λN E=>E.elim λy M=> ?_) λhF=>n.s8 _ (Au h).1<|G.fr▸hF;obtain⟨c,R⟩:=wT.mp y;have il:=(iU.mp R).1;have ap:=Pm n.o0 h (G.k0.r c N R) λe2=>aZ l<|dp.mpr<|e2▸k▸il;exact M.elim ap.1.1 ap.1.2
 refine .mk (v:=u) (H:=J) (D:=B) ⟨n.X,n.b0,n.p8,k,λp o q C y=> ?_,f.o0,λa h=>n.u3 a<|m.N a h,n.H3,f.s8,λa h=>n.v5 a<|G.fr▸h⟩ ⟨⟨[],(fS _).symm⟩,rfl,λq9=> .inl,G.i9,G.i8,G.os⟩ (zv n m 50 hu r) A;exact m.ro (f.w6 p o q C y) (n.w6 p o q (by(refine aE ex ?_;refine aE (rC (iU.mp C).1) ?_);exact C) (G.k0.r p q y))
end
section
variable{C:cR}{w:aW}{P z:aH}{n p:Th}{s s' U X:aF}{A:bN}{E:aD->aF->Prop}{x y:aD}{a v u:V}{L:Lc}{Y:cP}{fr:List aM}{F:dH}{k:Co}{K:PF}{H:List V}{c:aT->Co->Co}{B:cY}{ks:List (Option aT)}{S:List aT}{ps:List (aD×aD)}{I:List V}{acc:List (V×V)}{D:aM}{b:Bool}{R:V->aH->Prop}
variable{C:cR}{w:aW}{P z:aH}{n p:Th}{s s' U X:aF}{A:bN}{E:aD->aF->Prop}{x y:aD}{v u:V}{L:Lc}{Y:cP}{fr:List aM}{F:dH}{k:Co}{K:PF}{H S:List V}{d g f:Nat}{r:Fn}{N:uQ}{xs:List aD}{i Z:List aT}{j J:List kW}
structure Fo(J:List kW)(i:List aT)(j:List kW):Prop where
 e:∃p0 p1 apos B pos0,J= .Expr (.Call (.Attribute (.Call (.Name "super" p0) [] [] p1) "__init__" apos) i [] B) pos0::j/\(apos.endLine==B.line)=aB
 l:i.length<30
theorem aBI{e g o:aT}{d m:aX}{c b a h:cY}{l k f}(w:e= .Call g l f h)(x:g= .Attribute o m a)(v:o= .Call (.Name d c) k [] b)(s:d= "super")(q:m= "__init__")(u:k=[])(t:f=[])(A:l=i)(y:J=j): .Expr e B::J= .Expr (.Call (.Attribute (.Call (.Name "super" c) [] [] b) "__init__" a) i [] h) B::j:=by exact aE w (aE x<|aE v<|aE s<|aE q<|aE u<|aE t<|aE A<|aE y rfl)
theorem aFE(h:NA J=aA (i,j)):Fo J i j:=by
 induction J using bM with
 |nil=>exact nn h
 |cons s J=>induction s using aUL with
  |Expr e B=>obtain⟨c,_,h⟩:=ob h;obtain⟨a,_,h⟩:=ob h;obtain⟨b,_,h⟩:=ob h;obtain⟨d,h⟩:=rK h;obtain⟨f,v⟩:=dX<|aV h;obtain⟨d,u⟩:=bI d;obtain⟨d,t⟩:=bI d;obtain⟨d,q⟩:=bI d;obtain⟨d,o⟩:=bI d;obtain⟨d,m⟩:=bI d;obtain⟨d,l⟩:=bI d;obtain⟨d,g⟩:=bI d;refine⟨⟨b.1.1.2,b.1.2.2,a.1.2.2,c.1.2.2.2,B,?_,u⟩,f▸bQ t⟩;exact aBI c.2 a.2 b.2 (CY (k:=65477030642) d o (by rfl')) (CY (k:=125959291554050015) g q (by rfl')) (LA.mp m) (LA.mp l) f v
  |_=>exact nn h
theorem aO1(t:Z.all (λe=>(zQ e).isSome)=aB){d:Nat}(h:aS C (vM (cE Y<|d+1) Z k) K H L P):∃I,I.length=Z.length/\aS C k K (I++H) L P:=by
 induction Z generalizing H with
 |nil=>exact⟨[],rfl,h⟩
 |cons e a s=>
  obtain⟨x,w⟩:=bI t;obtain⟨b,y⟩:=qQ x;have l:∀{u:V},aS C (vM (cE Y<|d+1) a k) K (u::H) L P->∃I,I.length=(e::a).length/\aS C k K (I++H) L P:=λ{u} h=>by obtain⟨I,c,q⟩:=s w h;exact⟨I++[u],by rw[cM,c];rfl,by rw[dK];exact q⟩
  change aS C (cE Y (d+1) e _) K H L P at h;replace h:=y▸h;obtain⟨_,h⟩:=iS h;refine el h (λo m h=> ?_) λh=>h.elim;cases g:Ee o with
  |true=>replace h:=g▸h;exact el h (λv m h=>l h) λh=>h.elim
  |false=>
   replace h:=g▸h;change wL (lg _ L) _ H L P at h;cases f:lg (nG (key b.1)<|eD Y) L with
   |none=>replace h:=f▸h;exact h.elim
   |some u=>replace h:=f▸h;exact l h
structure vD(w:aW)(g:Nat)(N:uQ):Prop where
 s5:∃cc oc D oD cd,N.closure.lookup ("__class__":aX)=aA cc/\(KK w).lookup cc=aA oc/\oc.data= .cell (aA<|.ref D)/\(KK w).lookup D=aA oD/\oD.data= .cls cd/\mroIn (KK w) (fY 33) (.ref D)=aA aB/\
  ∃c3,Qc (KK w) (fY 33)=aA c3/\alongIn (KK w) "__init__" ((c3.mro.dropWhile (· != .ref D)).drop 1)=aA (aA<|.ref (fA g))
 v4:∃ar,(N.params.posonlyargs++N.params.args).head? =aA ar/\key ar.arg=511276646/\fX ar.arg=aB
 Q4:∃c o S t x,N.code= .ref c/\(KK w).lookup c=aA o/\o.data= .fields S/\S[2]? =aA (.str x t)/\((pp.main.file:aX)==x)=aB
 f:fnIn (KK w) (fA g)=aB/\∃o,(KK w).lookup (fA g)=aA o/\o.cls= .type "function"
structure yA(w:aW):Prop where
 I6:(pp.main.scope.names.lookup ("super":aX)).isSome=aI
 st:BL (KK w) ZR "thirdparty.any"=aA aC
 bi:DG (KK w) 65477030642 (.type "super")=aB
 c:∃o,(KK w).lookup (fY 33)=aA o
theorem Xu(a:dC w f r N)(h:FW (KK w) f g=aB):vD w g N:=by
 obtain⟨o,ho,h⟩:=uU h;obtain⟨s,hd,h⟩:=YG h;obtain⟨o',l,m⟩:=a.J5;have eo:=aV<|ho.symm.trans l;have:s=N:=Data.func.inj<|hd.symm.trans<|(aN Obj.data eo).trans m;replace h:=this▸h;obtain⟨b,h2⟩:=bI h;obtain⟨f1,f2⟩:=bI h2;obtain⟨E,f3,f4⟩:=uU f2;obtain⟨cc,T,b⟩:=uU b;obtain⟨d,R,b⟩:=uU b;obtain⟨b,q⟩:=bI b;obtain⟨q,k⟩:=bI q;obtain⟨ar,a1,A⟩:=uU q;obtain⟨A,a3⟩:=bI A;obtain⟨c,c1,k⟩:=Ob k;obtain⟨K,c2,k⟩:=uU k;obtain⟨S,x,t,y,c4,c5⟩:=TW k;refine⟨?_,⟨ar,a1,iQ A,a3⟩,⟨c,K,S,t,x,c1,c2,y,c4,c5⟩,f1,E,f3,jX f4⟩;generalize hq:d.data=u at b;induction u using ee with
 |cell v=>induction v using jP with
  |none=>exact aZ b cC
  |some v=>
   obtain⟨D,Q,b⟩:=Ob b;obtain⟨C,M,b⟩:=uU b;obtain⟨b,e⟩:=bI b;obtain⟨e,h6⟩:=bI e;obtain⟨y,L,e⟩:=uU e;generalize hr:C.data=u at b;induction u using ee with
   |cls cd=>exact⟨cc,d,D,C,cd,T,R,hq.trans<|aN (λv=>Data.cell<|aA v) Q,M,hr,jX h6,y,L,Dd e⟩
   |_=>exact aZ b cC
 |_=>exact aZ b cC
theorem Wg(w:aW):yA w/\FW (KK w) 3100 3000=aB/\FW (KK w) 3300 3100=aB:=by obtain⟨f,h⟩:=bI (xT w).i7;obtain⟨e,h⟩:=bI h;obtain⟨d,h⟩:=bI h;obtain⟨c,h⟩:=bI h;obtain⟨b,a⟩:=bI h;exact⟨⟨(mL _).mp d,IR c,b,wR.mp a⟩,f,e⟩
end
section
variable{C:cR}{w:aW}{U n:aH}{N t:Th}{s l Y z:aF}{A:bN}{E:aD->aF->Prop}{x y:aD}{a v u:V}{L:Lc}{F:cP}{o:List aM}{r:dH}{k:Co}{K:PF}{e:List V}{c:aT->Co->Co}{B:cY}{I:List (Option aT)}{H:List aT}{Z:List (aD×aD)}{X:List V}{acc:List (V×V)}{D:aM}{b:Bool}{R:V->aH->Prop}
variable{C:cR}{w:aW}{U n:aH}{N t:Th}{s l Y z:aF}{A:bN}{E:aD->aF->Prop}{x y:aD}{v u:V}{L:Lc}{F:cP}{o:List aM}{r:dH}{k:Co}{K:PF}{e H:List V}{d g f:Nat}{J:Fn}{j:uQ}{xs:List aD}{i p:List aT}{S ss:List kW}
theorem zk(hC:sE C w d)(hA:Ar d A)(hE:eV C w A J.i0 (cE J.i0 10))(z6:dC w f J j)(z7:vD w g j)(hg:(iG g qO).isSome=aB){body:List kW}{b:aM}{p0 p1 apos B:cY}(hl:i.length<30)(hp:(apos.endLine==B.line)=aB)
  (k1:jM 65477030642 J.i0=aA .globalImplicit) (k2:jM 16122762859770605535 J.i0=aA .free) (hnm:i.all (λT=>(zQ T).isSome)=aB) (h:aS C (kD (cE J.i0 10) i<|.i7 g i.length k) K [] L U) (q3:aJ w U N s) (R:aO w o N s J.i0 L (sW j b<|fA f))
  (cap:∀nm c,(sW j b<|fA f).cells.lookup nm=aA c->(nm,tN)∈J.i0->(nm,c)∈j.closure):
  aUP (Md w) A (.func body (sW j b<|fA f)) (dJ (.Call (.Attribute (.Call (.Name "super" p0) [] [] p1) "__init__" apos) i [] B)<|sW j b<|fA f) (λq9 l=>Nt w N s (λq9=>aS C k K [] L) aB l) E s:=by
 obtain⟨G,_⟩:=Wg w;have M:=xV h;have o1:fX "super"=aB:=by decide+kernel
 have o2:fX "__class__"=aB:=by decide+kernel
 have e1:key "super"=65477030642:=by decide+kernel
 have e2:key "__class__"=16122762859770605535:=by decide+kernel
 obtain⟨of,f1,f2⟩:=z6.J5;obtain⟨cc,oc,D,oD,cd,d1,d2,d3,d4,d5,d6,c3,d7,d8⟩:=z7.s5;obtain⟨ar,a1,_,a3⟩:=z7.v4;obtain⟨c,u,vs',y,x,b1,b2,b3,b4,b5⟩:=z7.Q4;obtain⟨g1,og,g2,g3⟩:=z7.f;obtain⟨X,zu,hr⟩:=aO1 hnm M.r;have hs:∃q4 fs,lg 0 L=aA (.a9 q4)/\U[q4]? =aA (.g9 33 fs):=by
  have hr:uG i.length (X++[]) [] λq8 q7=>CN C g q8 (aS C k K) q7 L U:=hr;replace hr:=(zu).symm▸hr;have hr:=Ti hr;unfold CN at hr;cases q1:lg 0 L with
  |none=>replace hr:=q1▸hr;exact hr.elim
  |some v=>
   replace hr:=q1▸hr;induction v using V.casesOn with
   |a9 q4=>
    dsimp only at hr;cases q2:U[q4]? with
    |none=>replace hr:=q2▸hr;exact hr.elim
    |some u=>
     replace hr:=q2▸hr;induction u using O.casesOn with
     |g9 c fs=>induction hr with|of hb _=>exact⟨q4,fs,rfl,by exact aE q2 (aE (iQ hb) rfl)⟩
     |_=>exact hr.elim
   |_=>exact hr.elim
 obtain⟨q4,fs,l0,ho⟩:=hs;have par:J.r6[0]? =aA ar.arg:=by
  (refine eJ z6.N5 ?_;refine aE (jW) ?_)
  have:=a1;rw[z6.O2,aUQ,List.head?_eq_getElem?]at this;refine aE this ?_;rfl
 have Ow:=z6.x0 _<|fT par;obtain⟨kd,w1,w2⟩:=Ow.k;have kn:kd≠ .globalImplicit:=λT=>by replace w2:=T▸w2;exact iE w2
 have pt0:=z6.pt par;have K2:(sW j b<|fA f).kindOf "__class__"=aA .free:=by show j.scope.names.lookup _=_;refine aE z6.i0 ?_;exact(Iq R.i0 o2<|e2▸k2).2
 have hm2:=(Iq R.i0 o2<|e2▸k2).1;have hcl:(sW j b<|fA f).cells.lookup ("__class__":aX)=aA cc:=by
  obtain⟨c',q,_⟩:=R.w9 _ _ (Ad R.i0 (f:= "__class__") (by decide+kernel) (e2▸k2) (by decide))
  have m1:=cap _ _ q.1 hm2;have m2:=EM d1;have one:=z6.p9;refine aE q.1 ?_;generalize j.closure=q8 at m1 m2 one;induction q8 using bM with
  |nil=>exact nomatch m1
  |cons a q7=>induction q7 using bM with
   |nil=>exact aN aA (dX<|(dU.mp m1).trans (dU.mp m2).symm).2
   |cons=>exact aZ one (by exactλh=>nomatch BZ h)
 rw[arm_eval_Call];refine PySem.wpAt_bind (ks_wpAt_super_base (f:=fA f) (of:=of) (fd:=j) (ar:=ar) (cc:=c) (oc:=u) (vs:=vs') (file:=x) (tf:=y) ((R.x9 "super" _ o1 (e1▸k1)).resolve_right λT=>nomatch T.1) K2 rfl rfl (q3.X _ _ f1) f2 a1 b1 (q3.X _ _ b2) b3 b4 b5 G.I6 ?_);refine Vx R q3 o1 (e1▸k1) (.inr (e1▸G.bi)) ⟨rfl,?_⟩;refine aTN R.n5 K2 hcl ⟨oc,q3.X _ _ d2,d3⟩ ?_ rfl;refine Wh R Ow.ok w1 kn (by show lg (pt J.i0 ar.arg) L=_;rw[pt0];exact l0) λx rx=> ?_
 obtain⟨q',p,z8,ex,m⟩:=Jx q3 ho rx;rw[ex]at rx⊢;have hxC:q'.1≠fY 33:=λT=>by obtain⟨u,h⟩:=G.c;exact nn<|(q3.u3 _<|.inl (Au m.hq).1).1.symm.trans<|T▸h
 refine ks_wpAny_isType_cls (q3.X _ _ d4) d5 ⟨rfl,?_⟩;refine ks_wpAny_call_super (oD:=oD) (cdD:=cd) (ox:=EJ (fY 33) q'.2) (C:=fY 33) (q3.X _ _ d4) d5 m.i.at_ rfl (λc h=>nomatch h) (looks_mroIn q3.X d6) λh' hso hk'=> ?_;have G1:aU s {s with heap:=h'}:=⟨hk',dR<|iF hso,rfl,rfl⟩
 have I₁:=q3.l8 G1;refine aQ9<|aK<|mY ?_;unfold methodCall;refine aE (ZH M.n hl) ?_;refine aK<|fV ?_;unfold calleeOf;simp only[if_true];refine ks_wpAny_getMethod_super hso (looks_opaque I₁.X G.st) (λA Q E s k q=>aK<|(looks_clsIn I₁.X d7) A _ E s k<|bA q) rfl I₁.X d8 (I₁.X _ _ g2) g3 hxC rfl ?_;refine aK ?_;unfold methodCallPos;simp only[aRA,hp,Qq,if_true];refine bA ?_;have G2:=G1.j3 (aU.u4 {s with heap:=h'} {cls:= .type "method",data:= .fields #[.ref (fA g),.ref q'.1]} (s.toks+1))
 have hm2:=oU h' {cls:= .type "method",data:= .fields #[.ref (fA g),.ref q'.1]};have I₂:=q3.l8 G2;have R₂:=R.gd q3<|G2.gd [] N;have r₂:=G2.kp.rv rx;have hno:¬pY N.ρ h'.objs.size:=λho=>rH _<|I₁.L3 ho;obtain⟨oC,hC3⟩:=G.c;show aL _ _ (dx B (.ref h'.objs.size) [] (uV B<|sI i<|sW j b<|fA f) []) _ _ _;refine callWith_of (P:=MethP (KK w) h'.objs.size (fA g)<|.ref q'.1) (by refine aE (Gy M.n) ?_;rfl) (λh m=>keeps_M g1 h m) (JZ @hE h I₂ R₂ λxs s₃ vs₃ σ₃ θ₃ I₃ G₃ r₃ e₃=> ?_)
 have hm3:=G₃.i8 _ _ hm2 (λh=>(by contradiction)) hno
 have q:CN C g vs₃ (aS C k K) [] L σ₃:=e₃.w8 rfl;unfold CN at q;replace q:=l0▸q;dsimp only at q;cases q2:σ₃[q4]? with
 |none=>replace q:=q2▸q;exact q.elim
 |some u=>
  replace q:=q2▸q;induction u using O.casesOn with
  |g9 c fs=>
   induction q with|of hb q=>
   refine⟨⟨hm3,I₃.X⟩,QO<|ks_codeAny_call_bound hm3<|hC q hg hA.j9 I₃ (.mk (G₃.k0.rv r₂) r₃) λq6 s₄ z8=> ?_⟩;induction z8 with| @mk v σ₄ θ₄ I₄ G₄ r₄ q₄=>
   induction v using V.casesOn with
   |h9=>exact .mk I₄ ((G2.gd [] N).j3<|G₃.j3 G₄) q₄
   |_=>exact q₄.elim
  |_=>exact q.elim
end
section
variable{C:cR}{w:aW}{J U:aH}{t Y:Th}{s P B z:aF}{A:bN}{E:aD->aF->Prop}{x y:aD}{a v u:V}{L:Lc}{e:cP}{X:List aM}{j:dH}{k:Co}{K:PF}{p:List V}{c:aT->Co->Co}{o:cY}{r:List (Option aT)}{N:List aT}{S:List (aD×aD)}{I:List V}{acc:List (V×V)}{D:aM}{b:Bool}{R:V->aH->Prop}
variable{C:cR}{w:aW}{J U:aH}{t Y:Th}{s P B z i:aF}{A:bN}{E:aD->aF->Prop}{x:aD}{v u:V}{L:Lc}{d g n:Nat}{H:Fn}{Z:uQ}{xs:List aD}{N:List V}{l:List aM}{R:V->aH->Prop}{j:dH}{f:tH}{b:Bool}
noncomputable abbrev Mv(w:aW):Prop:=∀h:dW,(KK w).In h->h.NoLimit
theorem nQ.P9(h:nQ (d+1) A)(j:dH):Ar d (A.deeper j):=
 ⟨h.v8,fZ (gZ<|aR (bW<|BY A.depth 1<|3*d)<|jC _) h.D9,fZ (aR (Dy (bW<|BY A.units 3<|150*d) 300) (fG (show 303<=440 by decide) (A.units+150*d))) h.C0⟩
theorem aNW(a:aJ w J t s)(h:Nx w t s (KH b J R) x P):Nx w t s R x P:=by
 induction b using eT with
 |true=>exact aGW a h
 |false=>exact h
noncomputable def OU(f:tH):aD:=match f with| .ret v=>v|_=> .none
theorem aEZ{b:List kW}{T:pJ->aF->Prop}(h:aUP (Md w) (A.deeper j) (.func b j) (Lu b j) (λf P=>T (.ok (.ret (OU f))) P) (λa P=>aL (Md w) (A.deeper j) (leaving j a) (λd c=>T (.error a) c) (λg c=>T (.error g) c) P) s):lI (Md w) A (.func b j) T s:=
 ks_codeAny_funcAt (ks_wpAt_mono h (λf P h=>by cases f<;>exact h) λd d a=>a)
theorem yi(k:aJ w J t s)(g:aU s B)(E:∀a∈l,s.heap.objs.size<=a)(G:Gd l (t.j5 l) B (t.j5 l) z)(n:Nf w l l H.i0 j (t.j5 l) z (Ft b J R) f i):Nx w t s R (OU f) i:=by
 induction n with| @mk K L U m A u D d q=>
 have F:m.F=l++t.F:=u.fr;have y:∀a∈t.F,a∈m.F:=λa h=>F▸kM l h;have C:∀{v x},Rv w m i v x->KH b J R v U->Nx w t s R x i:=λd q=>aNW k<|.mk (D:=⟨m.ρ,t.F⟩) (A.D8 y) ((G.j3 u).I2 g E λa h=> .inl h) ((Aa y).rv d) q;induction K using Fl.casesOn with
 |e9=>rw[show f= .next from d];exact C (v:= .h9) rfl q
 |r4=>exact q.elim
 |b8 v=>obtain⟨x,c,d⟩:=d;rw[c];exact C d q
theorem Up{c:Type}{a:Option c}{b:c->Bool}(h:a.elim aI b=aB):∃k,a=aA k/\b k=aB:=by
 induction a using jP with
 |none=>exact aZ h cC
 |some k=>exact⟨k,rfl,h⟩
theorem aHP{a:iL}(h:Po a=aB):a= .free:=by
 induction a with
 |free=>rfl
 |_=>exact aZ h cC
theorem aGF(F:dC w g H Z){b:Nat}(h:FH g=aA b):vD w b Z/\(iG b qO).isSome=aB:=by
 obtain⟨_,f,d⟩:=Wg w;by_cases a:g=3100;subst a;rw[←aV h];exact⟨Xu F f,by decide+kernel⟩
 by_cases c:g=3300
 subst c;rw[←aV h];exact⟨Xu F d,by decide+kernel⟩
 delta FH FH.match_1 at h;rw[dif_neg a,dif_neg c]at h;exact nn h
theorem nc(y:oT w)(m:Mv w)(hC:sE (WR n) w d):sE (WR<|n+1) w (d+1):=by
 intro g N J R t s A T xs h hg hA u k q;obtain⟨H,Z,hf,F⟩:=So (w:=w) hg;change(match Internal.cB g with|some f=>_|none=>False)at h
 unfold Internal.cB at h;rw[hf]at h;induction h with|of hz h=>
 have K:H.r6.length=N.length:=(iQ hz).symm;obtain⟨a,o1,o2⟩:=F.J5;obtain⟨c,oc,cvs,ct,c1,c2,c3,c4⟩:=F.J4;refine codeAny_call_function (fZ (dI _ _) hA.D9) (u.X _ _ o1) o2 F.co F.R4 F.A4 ⟨c,oc,cvs,ct,c1,u.X _ _ c2,c3,c4⟩ ?_;rw[vh F (K.trans k.f7.symm)];refine bA<|aCM ?_;obtain⟨l,C⟩:=aG7 F u<|fA g;refine aG3 K F.x0 (u.y8 C.g C.lo C.hi) C.R ((wI (f:=t) C.g C.lo).rl k) λz E G₂ D=>⟨m _ E.X,?_⟩;rw[F.P3 K]at D;have L:=hA.P9<|sW Z s.heap.objs.size<|fA g;have fin:∀{f:tH} {i:aF},Nf w l l H.i0 (sW Z s.heap.objs.size<|fA g) (t.j5 l) z (Ft (Se.contains g) J R) f i->T (.ok (.ret (OU f))) i:=λn=>q _ _<|yi u C.g C.lo G₂ n;refine aEZ ?_;change aS (WR n) (OC g H) _ _ _ _ at h;unfold OC at h;cases hs:NA H.A4 with
 |none=>rw[hs]at h;exact aQ9<|dP (Zy y @hC L 40 H.A4 h E D) (λf i n=>fin n) λQ Q b=>b
 |some v=>
  rw[hs]at h;obtain⟨args,rest⟩:=v;have x:=aFE hs;obtain⟨p0,p1,apos,o,pos0,e0,hp⟩:=x.e;cases hi:FH g with
  |none=>dsimp only at h;rw[hi]at h;exact iI h
  |some g'=>
   dsimp only at h;rw[hi]at h;obtain⟨h1,h⟩:=iS h;obtain⟨h1,h2⟩:=bI h1;obtain⟨h2,h3⟩:=bI h2;obtain⟨k1,e1,h1⟩:=Up h1;obtain⟨k2,e2,h2⟩:=Up h2;obtain⟨S1,hg'⟩:=aGF F hi;rw[e0];refine ks_wpAt_execs_cons<|ks_wpAt_Expr_any (ks_wpAt_mono (zk @hC L (@lB.e _ _ _ _ (FA y @hC L 10) H.i0) F S1 hg' x.l hp (SX h1▸e1) (aHP h2▸e2) h3 h E D C.R3) (λQ i n=> ?_) λQ Q b=>b) (Xx D)<|Pw rfl;induction n with|mk I₃ M h=>
   exact aQ9 (dP (Zy y @hC L 40 rest h I₃<|D.gd E M) (λf s₄ n=>fin<|n.tr M.t9) λQ Q b=>b)
theorem aI4(a:oT w)(b:Mv w)(n:Nat):sE (WR n) w n:=by
 induction n with
 |zero=>intro _ _ _ _ _ _ _ _ _ h;exact iI h
 |succ n c=>exact nc a b @c
end
end
end Internal.S
namespace Internal
noncomputable section
local macro_rules | `(tactic| rfl') => `(tactic| kernel_rfl)
theorem dN{i ext:aH}{p:Nat}{o:O}(h:i[p]? =aA o):(i++ext)[p]? =aA o:=by refine aE (rC (iU.mp h).1) ?_;exact h
theorem BD{i ext:aH}{o:O}:(i++o::ext)[i.length]? =aA o:=by simp
theorem Jb{i ext:aH}{o a:O}:(i++o::ext).set i.length a=i++a::ext:=by rw[QQ _ _ (bT _),yT];rfl
theorem Kn{i ext:aH}{o a:O}:(i++a::o::ext)[i.length+1]? =aA o:=by rw[uR (dI ..),wY];rfl
theorem Tl{i ext:aH}{o b a:O}:(i++b::o::ext).set (i.length+1) a=i++b::a::ext:=by rw[QQ _ _ (dI ..),wY];rfl
theorem PN{i ext:aH}{o a z:O}:(i++a::o::ext)[(i++[z]).length]? =aA o:=by refine aE cM ?_;exact Kn
theorem Zo{i ext:aH}{o b a z:O}:(i++b::o::ext).set (i++[z]).length a=i++b::a::ext:=by refine aE cM ?_;exact Tl
theorem aMI{i:aH}{o a:O}:(i++[o])++[a]=i++[o,a]:=by simp
set_option genCtorIdx true in
inductive Nm where|T|U|E|E0|E1|E2|B|D|S|R
 deriving DecidableEq
open Nm
noncomputable def iO:Nm->aX
 |T=>cD "T"|U=>cD "U"|E=>cD "E"|E0=>cD "E0"|E1=>cD "E1"|E2=>cD "E2"|B=>cD "B"|D=>cD "D"|S=>cD "S"|R=>cD "R"
def Fs:Option Nm->aX|none=>cD ""|some a=>iO a
def oB(o:Option Nm):V:= .d9 (Fs o)
def nm(a:Nm):V:= .d9 (iO a)
noncomputable def Np:List (Option Nm):=[aC,aA T,aA U,aA E,aA E0,aA E1,aA E2,aA B,aA D,aA S,aA R]
theorem Xn(a:Option Nm):a∈Np:=aRB (by induction a using jP with|none=>rfl|some a=>cases a<;>rfl)
theorem FB(a b:Option Nm):(Fs a==Fs b)=aQ (a=b):=
 beq_iff_eq.mp (cX.mp (cX.mp (show(Np.all λa=>Np.all λb=>(Fs a==Fs b)==aQ (a=b))=aB by decide+kernel) a (Xn a)) b (Xn b))
theorem zM(a b:Nm):(iO a==iO b)=aQ (a=b):=(FB (aA a)<|aA b).trans (by simp)
structure aG where
 mT:Fin 4
 nE:Bool
 bU:Bool
 hD:Bool
 s:Fin 5
 r:Fin 3
noncomputable def aG.i0(c:aG):List Nm:=[T,U,E,E0,E1]++(if c.nE then [E2]else [])++[B]++(if c.hD then [D]else [])++[S,R]
noncomputable def aG.k9(c:aG):Nm->Option Nm
 |E0=>aA E|E1=>aA E|E2=>aA E|B=>aA (if c.bU then U else T)|D=>aA B|_=>aC
noncomputable def aG.i7(c:aG):Nm->List Nm
 |S=>(match c.s with|0=>[T,U]|1=>[B]|2=>[E0,U]|3=>[T,E]|_=>[U])
 |R=>(match c.r with|0=>[S]|1=>[S,U]|_=>[E1,S])
 |_=>[]
noncomputable def bs:List Bool:=[aI,aB]
noncomputable def yK:List Nm:=[T,U,E,E0,E1,E2,B,D,S,R]
def cfgL:List aG:=bs.flatMap λa=>bs.flatMap λc=>bs.flatMap λb=>[0,1,2,3,4].flatMap λs=>[0,1,2].map λr=>⟨0,a,c,b,s,r⟩
theorem Ig(b:Bool):b∈bs:=aRB (by cases b<;>rfl)
theorem GF(a:Nm):a∈yK:=aRB (by cases a<;>rfl)
theorem PL(c:aG):{c with mT:=0}∈cfgL:=by
 obtain⟨mT,a,f,b,s,r⟩:=c;have d:∀s:_root_.Fin 5,s∈([0,1,2,3,4]:List (_root_.Fin 5)):=by decide
 have e:∀s:_root_.Fin 3,s∈([0,1,2]:List (_root_.Fin 3)):=by decide
 exact jZ.mpr ⟨a,Ig _,jZ.mpr ⟨f,Ig _,jZ.mpr ⟨b,Ig _,jZ.mpr ⟨s,d _,gJ.mpr ⟨r,e _,rfl⟩⟩⟩⟩⟩
theorem qM(P:aG->Nm->Bool)(b:∀c a,P {c with mT:=0} a=P c a)(h:(cfgL.all λc=>yK.all<|P c)=aB)(c:aG)(a:Nm):P c a=aB:=(b c a).symm.trans<|cX.mp (cX.mp h _<|PL c) a<|GF a
theorem He(P:aG->Bool)(a:∀c,P {c with mT:=0}=P c)(h:cfgL.all P=aB)(c:aG):P c=aB:=(a c).symm.trans<|cX.mp h _<|PL c
noncomputable def CJ:Nm->Bool|E=>aB|_=>aI
def aG.t7(c:aG):Nm->V
 |T=>(match c.mT with|0=>vS ""|1=>vS "some"|2=>vS "lone"|_=>vS "one")
 |E0=>vS "one"|E1=>vS "one"|E2=>vS "one"|D=>vS "lone"|_=>vS ""
def sR(c:aG)(a:Nm):V:=oB<|c.k9 a
def Ay(c:aG)(a:Nm):V:= .a8 ((c.i7 a).map nm)
noncomputable def dT(k:Fin 4):aX:=match k with|0=>cD "f0"|1=>cD "f1"|2=>cD "f2"|_=>cD "f3"
set_option genCtorIdx true in
inductive Ty where
 |h9|u8|nm (a:Nm)|l6 (e:Fin 4)|j0 (pl:Bool) (a b:Nm)|r9 (a b:Nm)|v2 (a b x y:Nm)|u6 (lone:Bool) (x y:Nm)
 deriving DecidableEq
def kE(x:V):V:= .a8 [vS "name",.a5 0,x]
def CW(a:String)(l r:V):V:= .a8 [vS "bin",.a5 0,vS a,l,r]
def sM(m l r:V):V:= .a8 [vS "arrow",.a5 0,vS "",m,l,r]
def vV:Ty->V
 | .h9=> .a8 [vS "none",.a5 0]
 | .u8=> .a8 [vS "univ",.a5 0]
 | .nm a=>kE<|nm a
 | .l6 e=>kE<|.d9 (dT e)
 | .j0 d a b=>CW (if d then "+"else "-") (kE<|nm a) (kE<|nm b)
 | .r9 a b=>sM (vS "") (kE<|nm a)<|kE<|nm b
 | .v2 a b x y=>CW "+" (sM (vS "") (kE<|nm a)<|kE<|nm b) (sM (vS "") (kE<|nm x)<|kE<|nm y)
 | .u6 c x y=>sM (if c then vS "lone"else vS "") (kE<|nm Nm.B) (sM (vS "") (kE<|nm x)<|kE<|nm y)
structure aP where
 g8:Nm
 k:Fin 4
 ty:Ty
 deriving DecidableEq
def aP.u7(f:aP):V:=vV f.ty
def aM9(j:List aP)(a:Nm):V:= .a8 ((j.filter λf=>f.g8==a).map λf=> .a8 [.a5 0,.e8 aI,.a8 [.d9 (dT f.k)],vS "set",f.u7])
def mE(c:aG)(j:List aP)(a:Nm):V:= .a8 [vS "sig",.a5 0,.a8 [nm a],.e8 (CJ a),c.t7 a,sR c a,Ay c a,aM9 j a,.a8 []]
def aY(c:aG)(t:Bool):List Nm:=if t then c.i0.reverse else c.i0
def kV(c:aG)(t:Bool)(j:List aP):List (V×V):=(aY c t).map λa=>(nm a,mE c j a)
theorem rS(a b:Nm):cN (nm a) (nm b)=aQ (a=b):=zM a b
noncomputable def jE{a:Type}(b:Bool)(v:a):List a:=match b with|true=>[v]|false=>[]
theorem mP{a c:Type}(p:a->Bool)(f:a->c):∀l:List a,(l.flatMap λb=>jE (p b)<|f b)=(l.filter p).map f
 |[]=>rfl
 |b::l=>by rw[EW,mP p f l,LD];cases p b<;>rfl
theorem AA{d:Type} [DecidableEq d]{c:d->V}{g:d->V}(f:∀a b,cN (c a) (c b)=aQ (a=b))(a:d):∀l:List d,dF (c a) (l.map λx=>(c x,g x))=if a∈l then aA (g a)else aC
 |[]=>rfl
 |b::l=>by show(if cN (c b) (c a)then aA (g b)else dF (c a) (l.map λx=>(c x,g x)))=_;rw[f,AA f a l];by_cases h:b=a;subst h;simp;rw[fM h];have:a≠b:=λe=>h e.symm;simp[this]
theorem Jd{c:aG}{t:Bool}{j:List aP}{a:Nm}(h:a∈aY c t):dF (nm a) (kV c t j)=aA (mE c j a):=by unfold kV;rw[AA rS,bO h]
theorem Bg{d:Type}{g:d->V}{c:d->V}(h:∀a,iC (c a)=aB):∀l:List d,(l.map λx=>(c x,g x)).all (λp=>iC p.1)=aB
 |[]=>rfl
 |b::l=>by show(iC (c b)&&(l.map λx=>(c x,g x)).all λp=>iC p.1)=aB;rw[h,Bg h l];rfl
theorem Ng(c:aG)(t:Bool)(j:List aP):(kV c t j).all (λp=>iC p.1)=aB:=Bg (λa=>rfl) _
theorem jT{s:aX}{d:List (V×V)}(h:d.all (λp=>iC p.1)=aB):dY (.d9 s) d=aB:=by unfold dY;refine aE h ?_;rfl
theorem PH(c:aG)(t:Bool)(j:List aP)(a:Nm):dY (nm a) (kV c t j)=aB:=jT<|Ng c t j
structure bC(c:aG)(t:Bool)(j:List aP)(F:List (Nat×V))(i:aH):Prop where
 o:i[3]? =aA (.g9 36 F)
 ke:lZ 1010963601584883 F=aA (.a9 4)
 ks:lZ 8380760175219 F=aA (.a9 5)
 e:i[4]? =aA (.b7 (kV c t j))
 s:i[5]? =aA (.a7 ((aY c t).map nm))
theorem eqN{i:aH}(x y:Nm):dZ .Eq (nm x) (nm y) i=aA (aQ<|x=y):=aN aA<|zM x y
theorem tS{i:aH}(x y:Option Nm):dZ .Eq (oB x) (oB y) i=aA (aQ<|x=y):=aN aA<|FB x y
theorem Bv{i:aH}(x y:Option Nm):dZ .NotEq (oB x) (oB y) i=aA (!aQ (x=y)):=aN (λb=>aA<|!b) (FB x y)
section
variable{n:Nat}{Q:V->aH->Prop}{i:aH}{c:aG}{t:Bool}{j:List aP}{F:List (Nat×V)}{a:Nm}{R:PR}{u:List V}{L:Lc}
theorem Es(X:bC c t j F i)(h:a∈aY c t)(q:R (mE c j a::u) L i):wP (rQ (.a9 4) (nm a) i) R u L i:=Bn (iJ X.e) (by
 show(match dY (nm a) (kV c t j)with|true=>dF (nm a) (kV c t j)|false=>aC)=_
 rw[PH];exact Jd h) q
theorem CU(X:bC c t j F i)(h:a∈aY c t)(q:Q (sR c a) i):WC (n+1) 3611 [.a9 3,nm a] i Q:=wc vf rfl<|cL X.o X.ke<|Es X h<|wP.of rfl q
theorem IO(X:bC c t j F i)(h:a∈aY c t)(q:Q (Ay c a) i):WC (n+1) 3612 [.a9 3,nm a] i Q:=wc sd rfl<|cL X.o X.ke<|Es X h<|wP.of rfl<|wP.of rfl q
theorem UG(X:bC c t j F i)(h:a∈aY c t)(q:Q (.e8 (!(c.i7 a).isEmpty)) i):WC (n+1) 3613 [.a9 3,nm a] i Q:=wc aCS rfl (cL X.o X.ke (Es X h (wP.of (v:=Ay c a) rfl (wP.of rfl (qL (b:= !(c.i7 a).isEmpty) (aN aA (by cases c.i7 a<;>simp)) q)))))
theorem aLP(X:bC c t j F i)(h:a∈aY c t)(q:Q (.e8 (CJ a)) i):WC (n+1) 3618 [.a9 3,nm a] i Q:=wc ig rfl<|cL X.o X.ke<|Es X h<|wP.of rfl q
theorem Wf(X:bC c t j F i)(h:a∈aY c t)(q:Q (c.t7 a) i):WC (n+1) 3619 [.a9 3,nm a] i Q:=wc qw rfl<|cL X.o X.ke<|Es X h<|wP.of rfl q
theorem uN{x:V}{l:List (V×V)}(a:dY x l=aB):uZ x (.b7 l)=aA (dF x l).isSome:=by dsimp only[uZ];exact aE a rfl
theorem Mu(X:bC c t j F i){x:aX}(q:Q (.e8 (dF (.d9 x)<|kV c t j).isSome) i):WC (n+1) 3609 [.a9 3,.d9 x] i Q:=
 wc tm rfl (cL X.o X.ke<|qL (jG rfl (iJ X.e)<|uN<|jT<|Ng ..) q)
def fD(c:aG)(a:Nm):List Nm:=(match c.k9 a with|some b=>[b]|none=>[])++c.i7 a
theorem Kg(c:aG)(a:Nm):(c.i7 a).length<=2:=bQ (qM (λc a=>aQ<|(c.i7 a).length<=2) (λb b=>rfl) (by decide+kernel) c a)
theorem mJ{b:Bool}{v:V}(h:b=aB):gI b v=aA v:=h▸rfl
theorem IF{a:Type}{g:a->V}{l:List a}{k:Nat}(h:l.length<=k)(b:jV k cF=aB):(l.map g).length<=cF:=bP g▸aR h (bV b)
theorem Kt(X:bC c t j F i)(h:a∈aY c t)(q:Q (.a8 ((fD c a).map nm)) i):WC (n+2) 3603 [.a9 3,nm a] i Q:=by
 have b:(fD c a).length<=3:=bQ (qM (λc a=>aQ<|(fD c a).length<=3) (λd d=>rfl) (by decide+kernel) c a)
 unfold fD at q b;refine wc aMO rfl<|bG X.o rfl<|CU X h<|dL (Bv (c.k9 a) aC) (λe=>bG X.o rfl<|CU X h<|bG X.o rfl<|IO X h<|wP.of (mJ ?_) ?_) λe=>bG X.o rfl<|IO X h<|wP.of (mJ ?_) ?_
 all_goals (try unfold sR);cases f:c.k9 a<;>rw[f]at q b e<;>first|exact q|exact cU (IF (g:=nm) b rfl)|injection e
def Bb(c:aG)(t:Bool)(a:Nm):List Nm:=(aY c t).filter λb=>aQ<|c.k9 b=aA a
theorem DS(c:aG)(t:Bool):(aY c t).length<=10:=by
 have:c.i0.length<=10:=bQ (He (λc=>aQ<|c.i0.length<=10) (λa=>rfl) (by decide+kernel) c)
 unfold aY;cases t<;>simpa using this
theorem sN{C:cR}{o:qW}{x y v:V}{b:Bool}{k:Co}{K:PF}(h:dZ o x y i=aA b)(q:K (.b8 (.a7 (jE b v))) L i)(e:aS C k K u L i=K (.b8 (.a7 [v])) L i:=by rfl):wP (xR<|dZ o x y i) (aS C (.br k .n9) K) u L i:=
 dL h (λh=>by subst h;refine aE e ?_;exact q) λh=>by subst h;exact q
theorem aLZ(X:bC c t j F i)(q:Q (.a7 ((Bb c t a).map nm)) i):WC (n+2) 3614 [.a9 3,nm a] i Q:=
 wc pg rfl (cL X.o X.ks (cH.of (Bs X.s) (eE nm (λb=>jE (aQ<|c.k9 b=aA a)<|nm b) (λb d K q=>bG X.o rfl<|CU X d<|sN (tS (c.k9 b)<|aA a)<|q _)
  (by rw[mP];exact wG.of (cU<|IF (aR (lA ..)<|DS c t) rfl) q))))
end
theorem bC.j7{c t r F j}(X:bC c t r F j)(ext:aH):bC c t r F (j++ext):=⟨dN X.o,X.ke,X.ks,dN X.e,dN X.s⟩
theorem Bd{f:V->Option V}:∀{l:List V},(∀v∈l,f v=aA v)->zX f l=aA l
 |[],_=>rfl
 |v::l,h=>by show(f v).bind _=_;rw[h v (.head _),Bd λx a=>h x<|.tail _ a];rfl
theorem aCR{j ext:aH}{l:List V}{n:Nat}(h:∀v∈l,gG (j++O.a7 l::ext) j.length n v=aA v):gG (j++O.a7 l::ext) j.length (n+1) (.a9 j.length)=aA (.a7 l):=by
 show(match mX j.length j.length with|true=>aA (V.a9 j.length)|false=>(match(j++O.a7 l::ext)[j.length]? with|some (O.a7 a)=>(zX (gG (j++O.a7 l::ext) j.length n) a).map V.a7|some (O.b7 a)=>(Bi (gG (j++O.a7 l::ext) j.length n) a).map V.b7|_=>aC))=_
 rw[show mX j.length j.length=aI from Ds.mpr λh=>rH _<|bV h,BD];exact aN (hV V.a7)<|Bd h
theorem GA{j ext:aH}{l:List V}{Q:V->aH->Prop}(h:∀v∈l,gG (j++O.a7 l::ext) j.length 49 v=aA v)(q:Q (.a7 l) j):JP j Q (.a9 j.length) (j++ .a7 l::ext):=⟨⟨_,rfl⟩,_,aCR h,q⟩
theorem Ys{j ext:aH}{v:V}{Q:V->aH->Prop}(h:gG (j++ext) j.length 50 v=aA v)(q:Q v j):JP j Q v (j++ext):=⟨⟨_,rfl⟩,_,h,q⟩
theorem Ko{j:aH}{n k:Nat}{l:List Nm}:∀v∈l.map nm,gG j n (k+1) v=aA v:=nA.mpr λa a=>rfl
noncomputable def lL:Nm->Nat|E0=>1|E1=>1|E2=>1|B=>1|D=>2|_=>0
theorem Zf(a:Nm):lL a<=2:=by cases a<;>exact bV rfl
def tF(c:aG):Nat->Nm->List Nm
 |0,_=>[]
 |k+1,b=>match c.k9 b with|none=>[]|some d=>d::tF c k d
def nU(c:aG)(a:Nm):List Nm:=tF c (lL a) a
theorem IL{c:aG}{b d:Nm}(h:c.k9 b=aA d):lL b=lL d+1:=by
 have:=qM (λc b=>match c.k9 b with|none=>aB|some d=>aQ<|lL b=lL d+1) (λa a=>rfl) (by decide+kernel) c b
 rw[h]at this;exact bQ this
theorem TC{c:aG}{b:Nm}(h:c.k9 b=aC):lL b=0:=by cases b<;>first|rfl|exact II h
theorem rO{c:aG}{t:Bool}{a:Nm}:a∈aY c t↔a∈c.i0:=by unfold aY;cases t;exact au;exact Lz
theorem Uc{p q:Prop} [Decidable p] [Decidable q](h:(!aQ p||decide q)=aB)(x:p):q:=by rw[cU x]at h;exact bQ h
theorem PO{c:aG}{t:Bool}{b d:Nm}(e:b∈aY c t)(h:c.k9 b=aA d):d∈aY c t:=by
 have:=qM (λc b=>match c.k9 b with|none=>aB|some d=> !(aQ<|b∈c.i0)||decide (d∈c.i0)) (λa a=>rfl) (by decide+kernel) c b
 rw[h]at this;exact rO.mpr<|Uc this<|rO.mp e
theorem Wz{c:aG}{b d:Nm}{k:Nat}(h:c.k9 b=aA d):tF c (k+1) b=d::tF c k d:=by show(match c.k9 b with|none=>[]|some d=>d::tF c k d)=_;rw[h]
section
variable{n:Nat}{Q:V->aH->Prop}{j:aH}{c:aG}{t:Bool}{r:List aP}{F:List (Nat×V)}{a b:Nm}{C:cR}{K:PF}{R:PR}{u:List V}{L:Lc}{P s:Prop}
theorem Xr(c:aG):∀(k:Nat) (a:Nm),(tF c k a).length<=k
 |0,_=>bT _
 |k+1,a=>by show(match c.k9 a with|none=>[]|some d=>d::tF c k d).length<=k+1;cases c.k9 a with|none=>exact eO _|some d=>exact gZ<|Xr c k d
theorem WW(c:aG)(a:Nm):(nU c a).length<=2:=aR (Xr c _ a)<|Zf a
theorem vK{b:Bool}(t:b=aB->P)(f:b=aI->s):wB (yC (.e8 b) j) P s:=wB.of rfl t f
theorem yH{a:Type}{g:a->V}{l:List a}{k:Nat}(h:l.length<=k)(b:mX k cF=aB:=by rfl):aQ ((l.map g).length<cF)=aB:=cU<|bP g▸fZ h (bV b)
theorem fR{a:Type}{g:a->V}{l:List a}{k:Nat}(h:l.length<=k)(b:jV k cF=aB:=by rfl):aQ ((l.map g).length<=cF)=aB:=cU<|IF h b
theorem YJ(X:bC c t r F j)(h:a∈aY c t)(q:Q (.a7 ((nU c a).map nm)) j):WC (n+2) 3615 [.a9 3,nm a] j Q:=
 wc wy rfl (JE 3 (λ(x:Nm×List Nm) v=>[aA (.a9 3),aA<|nm x.1,aA<|.a9 j.length]) (λx=>j++[.a7 (x.2.map nm)]) (λk x=>x.1∈aY c t/\lL x.1=k/\x.2++tF c k x.1=nU c a)
  (lL a) (a,[]) rfl rfl ⟨h,rfl,rfl⟩ (fZ (Zf a)<|bV rfl) λk (b,l) v z ⟨m,p,g⟩ y w=>
   have i:=X.j7 [.a7 (l.map nm)];bG i.o rfl (CU i m (dL (Bv (c.k9 b) aC) (λe=>bG i.o rfl (CU i m (lR BD rfl (oQ BD (yH<|aR (cM▸dI ..)<|g▸WW c a) Jb (by
    cases f:c.k9 b with
    |none=>rw[f]at e;exact iZ e
    |some d=>
     have o:=p.symm.trans<|IL f;refine y (lL d) (d,l++[d]) _ _ (o▸jY _) ?_ ?_ ⟨PO m f,rfl,?_⟩;unfold sR;rw[f];rfl;unfold sR;rw[f,gO];rfl;rw[←g,o,Wz f,dK];rfl))))) λe=>w _ _ (by
    have f:c.k9 b=aC:=by cases f:c.k9 b with|none=>rfl|some d=>rw[f]at e;exact AP e
    rw[←p,TC f,show tF c 0 b=[]from rfl,fS]at g;exact GA Ko<|g▸q))))
def bY(c:aG)(a:Nm):Option Nm:=if(c.i7 a).isEmpty then aA ((a::nU c a).getLast<|Hu _ _)else aC
theorem oz{a:Type}{g:a->V}{l:List a}(h:l≠[]):idxV (l.map g) (-1)=aA (g<|l.getLast h):=by have b:=List.length_pos_iff.mpr h;unfold idxV;rw[bH (by decide),bO (show-((l.map g).length:Int)<=-1 from aTA (Do.mpr<|bP g▸b)),bP,Qt,show((l.length:Int)+ -1).toNat=l.length-1 from aQE l.length 1,jW,List.getLast_eq_getElem,iA<|Nat.sub_lt b tO];rfl
theorem Cz(X:bC c t r F j)(h:a∈aY c t)(q:Q (oB<|bY c a) j):WC (n+3) 3616 [.a9 3,nm a] j Q:=by
 unfold bY at q;refine wc aBD rfl<|bG X.o rfl<|UG X h<|vK (λe=> ?_) λe=>bG X.o rfl<|YJ X h<|wP.of (mJ<|fR (g:=nm) (l:=a::nU c a)<|gZ<|WW c a)<|wP.of rfl<|wP.of (oz (g:=nm)<|Hu a<|nU c a) ?_;rw[bH (λh=>by rw[h]at e;exact iZ e)]at q;exact q
 rw[bO ((ej ..).mp e)]at q;exact q
noncomputable def CG(d:Nm->List Nm):Nat->List Nm->List Nm->Option (List Nm)
 |0,_,_=>aC
 |_+1,f,[]=>aA f
 |k+1,f,o::w=>if o∈f then CG d k f w else CG d k (f++[o]) (w++d o)
theorem aLO(c:aG)(a:Nm):(CG (fD c) 20 []<|fD c a).isSome=aB:=qM (λc a=>(CG (fD c) 20 []<|fD c a).isSome) (λc a=>by rw[show fD {c with mT:=0}=fD c from rfl]) (by decide+kernel) c a
theorem Ke{c:aG}{t:Bool}{b d:Nm}(e:b∈aY c t)(h:d∈fD c b):d∈aY c t:=
 rO.mpr (bQ (cX.mp (Uc (q:=(fD c b).all (λd=>aQ<|d∈c.i0)=aB) (by
  have:=qM (λc b=> !(aQ<|b∈c.i0)||(fD c b).all λd=>aQ<|d∈c.i0) (λc a=>by rw[show fD {c with mT:=0}=fD c from rfl];rfl) (by decide+kernel) c b
  rw[Bool.decide_eq_true];exact this) (rO.mp e)) d h))
theorem Nj{d:Type} [DecidableEq d]{c:d->V}{a:d}(e:∀b,jS (c b) (c a)=aA (aQ<|b=a)):∀l:List d,tV (c a) (l.map c)=aA (aQ<|a∈l)
 |[]=>aN aA (fM sJ).symm
 |b::l=>by show(jS (c b)<|c a).bind _=_;rw[e,Nj e l];refine aN aA ?_;rw[Dp,BO,decide_eq_true_eq,decide_eq_true_eq,decide_eq_true_eq,dA,eq_comm]
theorem Vb{e:Type} [DecidableEq e]{c:e->V}{a:e}(f:∀b,jS (c b) (c a)=aA (aQ<|b=a))(l:List e):∃d,tV (c a) (l.map c)=aA d/\(d=aB↔a∈l):=⟨_,Nj f l,decide_eq_true_iff⟩
theorem Cn{l:List Nm}:tV (nm a) (l.map nm)=aA (aQ<|a∈l):=Nj (c:=nm) (λb=>aN aA<|zM b a) l
theorem On(c:aG)(a:Nm):(fD c a).length<=3:=bQ (qM (λc a=>aQ<|(fD c a).length<=3) (λc a=>rfl) (by decide+kernel) c a)
theorem UO(X:bC c t r F j)(h:a∈aY c t)(q:∀l:List Nm,l.length<=63->Q (.a7 (l.map nm)) j):WC (n+3) 3617 [.a9 3,nm a] j Q:=by
 refine wc aF4 rfl (bG (X.j7 _).o rfl (Kt (X.j7 _) h (wP.of rfl (dS.of rfl (JE 4 (λ(x:List Nm×List Nm) o=>[aA (.a9 3),aA<|nm a,aA<|.a9 j.length,aA<|.a9 (j++[O.a7 []]).length,o 0]) (λx=>j++[.a7 (x.1.map nm),.a7 (x.2.map nm)])
  (λk x=>(CG (fD c) k x.1 x.2).isSome=aB/\(∀b∈x.2,b∈aY c t)/\x.1.length+x.2.length+3*k<=63) 20 ([],fD c a) rfl aMI ⟨aLO c a,λb y=>Ke h y,Dy (fG (On c a) 0) 60⟩ (bV rfl) ?_)))))
 rintro k ⟨f,w⟩ o M ⟨m,H,v⟩ C d;have L:=X.j7 [.a7 (f.map nm),.a7 (w.map nm)];have z:(j++[O.a7 (f.map nm),.a7 (w.map nm)])[(j++[O.a7 []]).length]? =aA (.a7 (w.map nm)):=PN;have I:f.length<=63:=aR (aR (dI ..)<|dI ..) v;induction k using fO with
 |zero=>exact iZ m
 |succ k=>induction w using bM with
 |nil=>exact pU (kO z) rfl<|dL rfl (λe=>iZ e) λK=>d _ _<|GA Ko<|q f I
 |cons b w=>
  have v:f.length+(w.length+1)+(3*k+3)<=63:=v;have A:=λx d=>H x<|aUR b d;have y:=H b<|.head _;have m:(if b∈f then CG (fD c) k f w else CG (fD c) k (f++[b]) (w++fD c b)).isSome=aB:=m;have J:=On c b;refine pU (kO z) rfl<|dL (b:=aB) (aN aA<|cU<|Int.natCast_pos.mpr<|gM _) (λK=>lR z rfl<|XK (i:=0) z rfl Zo<|dL (jG rfl (kO BD)<|aN (hV oK) Cn) (λe=> ?_) λe=> ?_) λe=>AP e;have p:¬b∈f:=pM<|(mL ..).mp e;rw[bH p]at m;refine lR BD rfl<|oQ BD (yH (g:=nm) (k:=63) I) Jb<|lR PN rfl<|bG (X.j7 _).o rfl<|Kt (X.j7 _) y<|Tr PN rfl ?_ Zo ?_;have:=fR (g:=nm) (l:=List.eraseIdx (b::w) 0++fD c b) (k:=66)<|cM▸iR (aR (aR (jC _)<|aR (wZ ..)<|dI ..) v) J;rwa[gO]at this;refine C k (f++[b],w++fD c b) _ _ (jY k) rfl (by rw[gO,gO];rfl) ⟨m,λx d=> ?_,?_⟩
  exact(fU.mp d).elim (A x) λd=>Ke y d;rw[cM,cM];exact aR (bW (aN (· +3*k) ((kX ..).symm.trans (aN (· +(fD c b).length)<|BY ..))))<|aR (Dy (fG J _) _)<|aR (bW<|BY ..) v;have p:b∈f:=bQ<|(ej ..).mp e;rw[bO p]at m;exact C k (f,w) _ _ (jY k) rfl rfl ⟨m,A,aR (iR (fG (jC _) _)<|DA 3<|jC k) v⟩
end
section
variable{j:Type} [DecidableEq j]{i:j->V}
theorem KI{f:V->V->Option Bool}(c:∀a b,f (i a) (i b)=aA (aQ<|a=b)):∀l m:List j,qI f (l.map i) (m.map i)=aA (aQ<|l=m)
 |[],[]=>rfl
 |[],_::_=>rfl
 |_::_,[]=>rfl
 |a::l,b::m=>by show(f (i a)<|i b).bind (λx=>(qI f (l.map i)<|m.map i).map λy=>x&&y)=_;rw[c,KI c l m];refine aN aA ?_;rw[Dp,oM,decide_eq_true_eq,decide_eq_true_eq,decide_eq_true_eq,aS4]
noncomputable def iP(acc:List j):List j->List j
 |[]=>acc
 |x::r=>if x∈acc then iP acc r else iP (acc++[x]) r
theorem JB{x:j}{acc r:List j}(h:x∈acc):iP acc (x::r)=iP acc r:=bO h
theorem GQ{x:j}{acc r:List j}(h:x∉acc):iP acc (x::r)=iP (acc++[x]) r:=bH h
theorem ue(f:∀a b,cN (i a) (i b)=aQ (a=b))(x:j)(acc:List j):((acc.map i).any λy=>cN y<|i x)=aQ (x∈acc):=by rw[List.any_map,Dp,Ho,decide_eq_true_eq];exact⟨λc=>c.elim λb d=>d.elim λh e=>bQ ((f b x).symm.trans e)▸h,λh=>⟨x,h,(f x x).trans<|cU rfl⟩⟩
theorem Xk(d:∀a b,cN (i a) (i b)=aQ (a=b))(l:List j):∀acc:List j,mV (acc.map i) (l.map i)=(iP acc l).map i:=by
 induction l with
 |nil=>exactλe=>rfl
 |cons x r c=>intro acc;show(if(acc.map i).any (λy=>cN y<|i x)then mV (acc.map i) (r.map i)else mV (acc.map i++[i x]) (r.map i))=_;rw[ue d];by_cases h:x∈acc;rw[JB h,cU h];exact c acc;rw[GQ h,fM h,←c,gO];rfl
theorem Eh(l:List j):∀(acc:List j) (a:j),a∈iP acc l↔a∈acc\/a∈l:=by
 induction l with
 |nil=>exactλacc a=>⟨.inl,λh=>h.resolve_right sJ⟩
 |cons x r c=>intro acc a;by_cases h:x∈acc;rw[JB h];exact(c acc a).trans ⟨λh=>h.imp_right<|.tail _,λb=>b.elim .inl λb=>(dA.mp b).elim (λe=> .inl (e▸h)) .inr⟩;rw[GQ h,c,fU,dU,dA,or_assoc]
theorem WJ(l:List j):∀acc:List j,(iP acc l).length<=acc.length+l.length:=by
 induction l with
 |nil=>exactλb=>bT _
 |cons x r a=>intro acc;by_cases h:x∈acc;rw[JB h];exact uS<|a acc;rw[GQ h];exact aR (a _) (bW (by rw[cM,kX,kY [x].length];rfl))
omit [DecidableEq j]in
theorem YT(x:j):∀l:List j,∃m:List j,uC (i x) (l.map i)=m.map i/\m.Perm (x::l)
 |[]=>⟨[x],rfl,.refl _⟩
 |y::l=>by show ∃m:List j,(if Bj (i x) (i y)then i x::i y::l.map i else i y::uC (i x) (l.map i))=m.map i/\_;split;exact⟨x::y::l,rfl,.refl _⟩;obtain⟨m,b,a⟩:=YT x l;exact⟨y::m,by rw[b];rfl,(a.cons y).trans<|.swap ..⟩
omit [DecidableEq j]in
theorem Ms:∀l:List j,∃m:List j,nY (l.map i)=m.map i/\m.Perm l
 |[]=>⟨[],rfl,.refl _⟩
 |x::l=>by obtain⟨m,e,d⟩:=Ms l;obtain⟨a,c,b⟩:=YT (i:=i) x m;refine⟨a,?_,b.trans<|d.cons x⟩;show uC (i x) (nY<|l.map i)=_;exact aE e<|aE c rfl
end
def cW(l:List Nm):V:= .a8 (l.map nm)
theorem Tj(l m:List Nm):jS (cW l) (cW m)=aA (aQ<|l=m):=KI (i:=nm) (f:=lD 39) (λa b=>aN aA<|zM a b) l m
theorem xr(l m:List Nm):cN (cW l) (cW m)=aQ (l=m):=aN (KT · aI)<|Tj l m
theorem aCX(l m:List (Option Nm)):jS (.a8 (l.map oB)) (.a8 (m.map oB))=aA (aQ<|l=m):=KI (i:=oB) (f:=lD 39) (λa b=>aN aA<|FB a b) l m
theorem gy(l:List Nm):cW l= .a8 ((l.map aA).map oB):=by unfold cW;rw[kL];rfl
theorem Tz{c:aG}{a d:Nm}(h:c.k9 a=aA d):nU c a=d::nU c d:=by unfold nU;exact aE (IL h)<|aE (Wz h) rfl
theorem RP{c:aG}{a:Nm}(h:c.k9 a=aC):nU c a=[]:=by unfold nU;refine aE (TC h) ?_;rfl
theorem WD{c:aG}{a d:Nm}(h:c.k9 a=aA d):c.i7 a=[]/\c.i7 d=[]:=by
 have:=qM (λc a=>match c.k9 a with|none=>aB|some d=>(c.i7 a).isEmpty&&(c.i7 d).isEmpty) (λb b=>rfl) (by decide+kernel) c a
 replace this:=h▸this;exact(sK.mp this).imp LA.mp LA.mp
theorem aHQ{j:Type}{l m:List j}(e:l=m)(h:l≠[])(a:m≠[]):l.getLast h=m.getLast a:=by subst e;rfl
theorem Tm{c:aG}{a d:Nm}(h:c.k9 a=aA d):bY c a=bY c d:=by
 obtain⟨e,b⟩:=WD h;unfold bY
 (refine aE e ?_;refine aE b ?_)
 exact aN aA ((aHQ (by exact aE (Tz h) rfl) _ (Hu a (d::nU c d))).trans (List.getLast_cons<|Hu _ _))
def tR(c:aG)(a b:Nm):Bool:=aQ (a=b)||decide (b∈nU c a)
theorem aMB{c:aG}{a b:Nm}(h:b∈nU c a):bY c a=bY c b/\lL b<lL a:=by
 have:∀(k:Nat) {a b:Nm},lL a=k->b∈nU c a->bY c a=bY c b/\lL b<lL a:=by
  intro k;induction k with
  |zero=>
   intro a b f h;cases e:c.k9 a with
   |none=>replace h:=(RP e)▸h;exact(by contradiction)
   |some d=>replace f:=(IL e)▸f;exact tY f
  |succ k l=>
   intro a b f h;cases e:c.k9 a with
   |none=>replace h:=(RP e)▸h;exact(by contradiction)
   |some d=>
    have g:=IL e;rw[Tz e]at h;rcases dA.mp h with rfl|h
    exact⟨Tm e,g▸jY _⟩;obtain⟨n,m⟩:=l (a:=d) (nP<|g.symm.trans f) h;exact⟨(Tm e).trans n,Hy m<|g▸jY _⟩
 exact this _ rfl h
theorem ZL{c:aG}{a b:Nm}:tR c a b=aB↔a=b\/b∈nU c a:=by unfold tR;rw[BO,decide_eq_true_eq,decide_eq_true_eq]
theorem aPJ{c:aG}{a b:Nm}(h:tR c a b=aB):bY c a=bY c b/\lL b<=lL a/\(lL b=lL a->a=b):=
 (ZL.mp h).elim (λe=>e▸⟨rfl,bT _,λg=>rfl⟩) λh=>(aMB h).elim λf d=>⟨f,dR d,λe=>aZ d<|e▸rH _⟩
def nH(c:aG)(a b:Nm):Option Nm:=if tR c a b then aA a else if tR c b a then aA b else aC
theorem qi{c:aG}{a b:Nm}(h:nH c a b=aA a):tR c a b=aB:=by
 by_cases e:tR c a b=aB
 exact e;have h:=(bH e).symm.trans h;by_cases d:tR c b a=aB;exact ZL.mpr<|.inl (aV<|(bO d).symm.trans h).symm;exact HT<|(bH d).symm.trans h
def lP(c:aG)(l m:List Nm):List (Option Nm):=(l.zip m).map λp=>nH c p.1 p.2
def vO(c:aG)(a b:List Nm):Bool:= !(aQ<|b=a)&&aQ (lP c a b=a.map aA)
def Br(l:List Nm):Nat:=(l.map lL).sum
theorem xp{p q r s:Nat}(h:p<=q)(g:r<=s)(e:p+r=q+s):p=q/\r=s:=
 ⟨qC h<|Nat.le_of_add_le_add_right<|aR (bW e.symm)<|fG g p,qC g<|er<|aR (bW e.symm)<|Dy h r⟩
theorem pe{c:aG}{a:List Nm}:∀{b:List Nm},a.length=b.length->lP c a b=a.map aA->a.map (bY c)=b.map (bY c)/\Br b<=Br a/\(Br b=Br a->a=b):=by
 induction a with
 |nil=>exactλ{b} d k=>Dz d.symm▸⟨rfl,bT _,λk=>rfl⟩
 |cons x a l=>
  intro b;induction b using bM with
  |nil=>exactλd=>tY d
  |cons y b=>
   intro d h;obtain⟨n,m⟩:=BM (show nH c x y::lP c a b=aA x::a.map aA from h);obtain⟨v,g,t⟩:=aPJ<|qi n;obtain⟨s,f,r⟩:=l (nP d) m;refine⟨by rw[sH,sH,v,s],iR g f,λe=> ?_⟩
   obtain⟨q,p⟩:=xp g f (show lL y+Br b=lL x+Br a from e);exact aE (t q)<|aE (r p) rfl
theorem uh{c:aG}{k:Nat}{f:List (List Nm)}(n:∀l∈f,l.length=k):∀(r:Nat) (a:List Nm),Br a=r->a∈f->∃b∈f,a.map (bY c)=b.map (bY c)/\(f.all λd=> !vO c b d)=aB:=by
 intro r;induction r using aUS with
 |_ r y=>intro a A s;by_cases h:(f.all λd=> !vO c a d)=aB;exact⟨a,s,rfl,h⟩;rw[aRC,List.all_eq_false]at h;obtain⟨d,q,p⟩:=h;rw[aRC,ej]at p;obtain⟨g,m⟩:=sK.mp p;rw[mL,decide_eq_false_iff_not]at g;obtain⟨x,v,t⟩:=pe ((n _ s).trans (n _ q).symm)<|bQ m;obtain⟨b,F,e,C⟩:=y (Br d) (A▸sL v λe=>g (t e).symm) d rfl q;exact⟨b,F,x.trans e,C⟩
def kG:List (Nat×V):=[(2248903923324291953395,.a9 3),(35643093460954271031439987,.a9 11),(34272352658209873594102387,.a9 12),(139479195766731763,.a9 13),(61140055667,.a9 14),(267752755142263815485043,.a9 15),(473757171,.a9 17),(64652603877,vS "")]
def wM(c:aG)(l m:List Nm):V:=if aC∈lP c l m then .h9 else .a8 ((lP c l m).map oB)
noncomputable def zY(c:aG)(t:Bool)(l:List Nm):Prop:=∀a∈l,a∈aY c t
theorem Oi{j:Type}{i:j->V}:∀l m:List j,Bz (l.map i) (m.map i)=(l.zip m).map λp=>V.a8 [i p.1,i p.2]
 |[],[]=>rfl
 |[],_::_=>rfl
 |_::_,[]=>rfl
 |a::l,b::m=>aN (V.a8 [i a,i b]::·)<|Oi l m
theorem mG{j b:Type}(f:j->b):∀l:List j,(l.flatMap λa=>[f a])=l.map f
 |[]=>rfl
 |a::l=>aN (f a::·)<|mG f l
theorem aGP{c:aG}{l m:List Nm}:(lP c l m).length<=l.length:=by unfold lP;rw[bP,aRD];exact QR ..
theorem aGM{o:aH}{c:aG}{l m:List Nm}(a:List Nm):dZ .Eq (wM c l m) (cW a) o=aA (aQ<|lP c l m=a.map aA):=by
 unfold wM;by_cases h:aC∈lP c l m;rw[bO h,fM λe=>by replace h:=e▸h;have⟨_,_,e⟩:=gJ.mp h;cases e];rfl
 rw[bH h,gy];exact aCX ..
theorem VK{l:List (List Nm)}(h:∀x∈l,x≠[]):(l.map cW).all (xF CB)=aB:=by
 rw[qZ,cX];intro x c;induction x using bM with
 |nil=>exact aZ rfl<|h _ c
 |cons a x=>show(!aI&&(CB (nm a)&&(x.map nm).all CB))=aB;rw[qZ];exact cX.mpr λb b=>rfl
def Pn(l:List (List Nm)):List (List Nm):=aUT<|Ms (i:=cW) l
theorem IG(l:List (List Nm)):nY (l.map cW)=(Pn l).map cW/\(Pn l).Perm l:=aUU<|Ms (i:=cW) l
def vF(a:List (List Nm)):List (List Nm):=Pn<|iP [] a
def fP(c:aG)(b:List (List Nm)):List (List Nm):=(vF b).filter λa=>(vF b).all λd=> !vO c a d
theorem HO{a:List (List Nm)}(x:List Nm):x∈vF a↔x∈a:=by unfold vF;rw[(IG _).2.mem_iff,Eh];exact⟨λh=>h.resolve_left sJ,.inr⟩
theorem XH(a:List (List Nm)):(vF a).length<=a.length:=by unfold vF;refine aE ((IG _).2.length_eq) ?_;exact aR (WJ a [])<|bW<|jH _
theorem ub{o:aH}{a:List (List Nm)}(h:∀x∈a,x≠[])(c:a.length<=300):iX 2 (.a7 (a.map cW)) o=aA (.a7 ((vF a).map cW)):=by
 have e:jL (a.map cW)=aB:=by unfold jL;rw[VK h,Qq]
 have d:jL ((iP [] a).map cW)=aB:=by unfold jL;rw[VK λx b=>h x<|((Eh ..).mp b).resolve_left sJ,Qq]
 show(match jL (a.map cW)&&aQ ((a.map cW).length<=300)with|true=>rY (mV []<|a.map cW)|false=>aC)=_
 rw[e,bP,cU c];show rY (mV (([]:List (List Nm)).map cW)<|a.map cW)=_;rw[Xk xr];unfold rY;rw[d,(IG _).1];rfl
structure jU(c:aG)(cols res:List (List Nm)):Prop where
 e7:∀l∈res,l∈cols
 f7:res.length<=cols.length
 M5:∀a∈cols,∃b∈res,a.map (bY c)=b.map (bY c)
theorem Zm{c:aG}{d:List (List Nm)}{k:Nat}(m:∀l∈d,l.length=k):jU c d (fP c d):=
 ⟨λl h=>(HO l).mp (jA.mp h).1,aR (lA ..)<|XH _,λa n=>
  (uh (c:=c) (k:=k) (f:=vF d) (λl g=>m l<|(HO l).mp g) _ a rfl<|(HO a).mpr n).elim λb f=>f.elim λr e=>e.elim λq p=>
  ⟨b,jA.mpr ⟨r,p⟩,q⟩⟩
section
variable{n:Nat}{Q:V->aH->Prop}{o:aH}{c:aG}{t:Bool}{u:List aP}{F:List (Nat×V)}{a b:Nm}{C:cR}{K:PF}{R:PR}{z:List V}{L:Lc}{P w:Prop}
theorem Vy(X:bC c t u F o)(Y:o[10]? =aA (.g9 33 kG))(d:a∈aY c t)(q:Q (.e8 (tR c a b)) o):WC (n+3) 3001 [.a9 10,nm a,nm b] o Q:=by unfold tR at q;refine wc yv rfl<|qL (eqN a b)<|wB.of rfl (λe=> ?_) λe=>cL Y rfl<|bG X.o rfl<|YJ X d<|qL (jG rfl rfl Cn) ?_;rw[e]at q⊢;exact q;rw[e]at q;exact q
theorem RW(X:bC c t u F o)(Y:o[10]? =aA (.g9 33 kG))(g:a∈aY c t)(f:b∈aY c t)(q:Q (oB<|nH c a b) o):WC (n+4) 3002 [.a9 10,nm a,nm b] o Q:=by
 unfold nH at q;refine wc ze rfl<|bG Y rfl<|Vy X Y g<|vK (λe=> ?_) λe=>bG Y rfl<|Vy X Y f<|vK (λd=> ?_) λd=> ?_;replace q:=(bO e)▸q;exact q
 ·(replace q:=(bH<|Ds.mp e)▸q;replace q:=(bO d)▸q);exact q
 (replace q:=(bH<|Ds.mp e)▸q;replace q:=(bH<|Ds.mp d)▸q);exact q
theorem Uw(X:bC c t u F o)(Y:o[10]? =aA (.g9 33 kG)){l m:List Nm}(s:zY c t l)(r:zY c t m)(f:l.length<=1000)(q:Q (wM c l m) o):WC (n+5) 3003 [.a9 10,cW l,cW m] o Q:=by
 refine wc je rfl (wG.of rfl<|cH.of (l:=(l.zip m).map λp=> .a8 [nm p.1,nm p.2]) (aN (λl=>aA (Sr.h9,l))<|Oi l m)<|eE _ (λp=>[oB (nH c p.1 p.2)]) (λp k K q=> ?_) ?_);obtain⟨x,v⟩:=QS (show(p.1,p.2)∈l.zip m from k);exact dS.of rfl<|bG Y rfl<|RW X Y (s _ x) (r _ v)<|q _;rw[mG,show(l.zip m).map (λp=>oB<|nH c p.1 p.2)=(lP c l m).map oB from by unfold lP;rw[kL];rfl]
 unfold wM at q;obtain⟨d,y,g⟩:=Vb (c:=oB) (a:=aC) (λb=>aN aA<|FB b aC)<|lP c l m;refine wG.of (fR<|aR aGP f)<|wP.of rfl<|dL (jG rfl rfl y) (λe=> ?_) λe=> ?_;rw[bO (g.mp e)]at q;exact q;rw[bH λh=>by rw[g.mpr h]at e;cases e]at q;exact q
theorem AS(X:bC c t u F o)(Y:o[10]? =aA (.g9 33 kG)){f:List (List Nm)}{k:Nat}(L:0<k)(s:k<=1000)(v:∀l∈f,l.length=k/\zY c t l)(I:f.length<=300)(q:Q (.a8 ((fP c f).map cW)) o):WC (n+6) 3004 [.a9 10,.a7 (f.map cW)] o Q:=by
 have m:∀x,x∈vF f↔x∈f:=HO;have p:(vF f).length<=300:=aR (XH _) I;unfold fP at q;refine wc aDA rfl (wP.of (ub (λx J e=>by have:=(v x J).1;rw[e]at this;exact aZ L<|this▸rH _) I) ?_)
 generalize vF f=g at*;refine cH.of rfl<|eE cW (λa=>jE (g.all λd=> !vO c a d) (cW a)) (λa N K q=> ?_) ?_;have r:=v a<|(m a).mp N;refine cH.of rfl<|eE cW (λb=>jE (vO c a b)<|cW b) (λb M K q=> ?_) ?_;have A:=v b<|(m b).mp M;unfold vO at q;refine dL (b:= !aQ (b=a)) (aN (hV oK)<|Tj b a) (λe=>bG Y rfl<|Uw X Y r.2 A.2 (r.1▸s)<|dL (aGM a) (λC=> ?_) λC=> ?_) λe=> ?_;rw[e,C]at q;exact wB.of rfl (λH=>q _) λh=>AP h;rw[e,C]at q;exact wB.of rfl (λh=>iZ h) λH=>q _;rw[e]at q;exact wB.of rfl (λh=>iZ h) λH=>q _;rw[mP];refine wG.of (fR<|aR (lA ..) p)<|sN (b:=g.all λd=> !vO c a d) ?_ (q _);have e:(g.filter λb=>vO c a b)=[]↔(g.all λd=> !vO c a d)=aB:=by rw[eh,cX];simp only[aRC,Bool.not_eq_eq_eq_not,aRA]
 cases h:(g.filter λb=>vO c a b)with
 |nil=>refine aE (e.mp h) ?_;rfl
 |cons x y=>refine aE (show(g.all λd=> !vO c a d)=aI from Ds.mpr λP=>by rw[e.mpr P]at h;exact Fh h) ?_;rfl
 rw[mP];exact wG.of (fR<|aR (lA ..) p)<|wP.of rfl q
end
noncomputable def qU:Nm->Nat|R=>2|S=>1|_=>0
def Ev(c:aG):Nat->Nm->List Nm
 |0,_=>[]
 |k+1,a=>match bY c a with|some r=>[r]|none=>(c.i7 a).flatMap<|Ev c k
def tl(c:aG)(a:Nm):List Nm:=Ev c 3 a
theorem Vg(c:aG):∀(k:Nat) (a:Nm),tF {c with mT:=0} k a=tF c k a
 |0,_=>rfl
 |k+1,a=>by
  show(match c.k9 a with|none=>[]|some d=>d::tF {c with mT:=0} k d)=(match c.k9 a with|none=>[]|some d=>d::tF c k d)
  cases c.k9 a with|none=>rfl|some d=>show d::_=d::_;exact aE (Vg c k d) rfl
theorem aJ9(c:aG)(a:Nm):nU {c with mT:=0} a=nU c a:=Vg c _ a
theorem JG(c:aG)(a:Nm):bY {c with mT:=0} a=bY c a:=by unfold bY;simp only[aJ9];rfl
theorem aOO(c:aG)(k:Nat):∀a:Nm,Ev {c with mT:=0} k a=Ev c k a:=by
 induction k with
 |zero=>exactλd=>rfl
 |succ k b=>
  intro a;show(match bY {c with mT:=0} a with|some r=>[r]|none=>(c.i7 a).flatMap (Ev {c with mT:=0} k))=_
  rw[JG,funext b];rfl
theorem Kr(c:aG):tl {c with mT:=0}=tl c:=funext<|aOO c 3
theorem Cq{c:aG}{a r:Nm}(h:bY c a=aA r):tl c a=[r]:=by show(match bY c a with|some r=>[r]|none=>(c.i7 a).flatMap<|Ev c 2)=_;exact aE h rfl
theorem XU{c:aG}{a:Nm}(h:bY c a=aC):tl c a=(c.i7 a).flatMap (tl c):=by
 have:=qM (λc a=>(bY c a).isSome||decide (tl c a=(c.i7 a).flatMap (tl c))) (λc a=>by rw[JG,Kr];rfl) (by decide+kernel) c a
 rw[h]at this;exact bQ this
theorem Gv(c:aG)(a:Nm):(((c.i7 a).map λb=>qU b+1).sum<=qU a+1)/\∀b∈c.i7 a,qU b<qU a:=by
 have:=qM (λc a=>aQ (((c.i7 a).map λb=>qU b+1).sum<=qU a+1)&&(c.i7 a).all λb=>aQ<|qU b<qU a) (λc a=>rfl) (by decide+kernel) c a
 rw[oM,decide_eq_true_eq,cX]at this;exact⟨this.1,λb d=>bQ<|this.2 b d⟩
theorem Gm{c:aG}{t:Bool}{b d:Nm}(a:b∈aY c t)(h:d∈c.i7 b):d∈aY c t:=Ke a (by unfold fD;exact kM _ h)
noncomputable def eU(c:aG)(t:Bool)(k:Nat)(b:List (List Nm)):Prop:=∀l∈b,l.length=k/\∀a∈l,a∈aY c t/\(bY c a).isSome=aB
noncomputable def Ef(c:aG)(a:List (List Nm))(T:List Nm->Prop):Prop:=∀r:List Nm,T r↔∃l∈a,l.map (bY c)=r.map aA
theorem jU.ok{c t k a b}(p:jU c a b)(h:eU c t k a):eU c t k b:=λl d=>h l<|p.e7 l d
theorem jU.m8{c a d T}(p:jU c a d)(h:Ef c a T):Ef c d T:=λr=>(h r).trans ⟨λk=>k.elim λl m=>m.elim λf e=>let⟨b,n,o⟩:=p.M5 l f;⟨b,n,o.symm.trans e⟩,λg=>g.elim λl j=>j.elim λf e=>⟨l,p.e7 l f,e⟩⟩
theorem eU.cv{c t k b}(h:eU c t k b):∀l∈b,l.length=k/\zY c t l:=λl d=>⟨(h l d).1,λa e=>((h l d).2 a e).1⟩
structure SC(c:aG)(t:Bool)(a:Nm)(cols:List (List Nm)):Prop where
 ok:eU c t 1 cols
 f7:cols.length<=qU a+1
 m8:Ef c cols λr=>∃x∈tl c a,r=[x]
section
variable{n:Nat}{Q:V->aH->Prop}{i:aH}{c:aG}{t:Bool}{s:List aP}{F:List (Nat×V)}{a b:Nm}{C:cR}{K:PF}{R:PR}{w:List V}{L:Lc}{P u:Prop}
theorem aLM{r:Nm}(q:a∈aY c t)(d:bY c a=aA r):SC c t a [[a]]:=by
 refine⟨λl f=> ?_,gZ<|eO _,λx=> ?_⟩;refine aE (dU.mp f) ?_;exact⟨rfl,λb p=>by refine aE (dU.mp p) ?_;exact⟨q,by refine aE d ?_;rfl⟩⟩
 refine aE (Cq d) ?_;refine⟨λk=>k.elim λy m=>m.elim λo e=>⟨[a],.head _,by(refine aE e ?_;refine aE (dU.mp o) ?_);exact aN (· ::[]) d⟩,λg=>g.elim λl j=>j.elim λf e=>⟨r,.head _,?_⟩⟩
 replace e:=(dU.mp f)▸e;have e:[bY c a]=x.map aA:=e;replace e:=d▸e;exact(aUV λn n h=>aV h).mp (show x.map aA=[r].map aA from e.symm)
def sO(c:aG):Nat->Nm->List (List Nm)
 |0,_=>[]
 |k+1,a=>match bY c a with|some _=>[[a]]|none=>fP c<|(c.i7 a).flatMap<|sO c k
def gQ(c:aG)(a:Nm):List (List Nm):=sO c 3 a
theorem VE{k:Nat}{r:Nm}(b:bY c a=aA r):sO c (k+1) a=[[a]]:=by show(match bY c a with|some _=>[[a]]|none=>fP c<|(c.i7 a).flatMap<|sO c k)=_;exact aE b rfl
theorem Xj{k:Nat}(b:bY c a=aC):sO c (k+1) a=fP c ((c.i7 a).flatMap<|sO c k):=by show(match bY c a with|some _=>[[a]]|none=>fP c<|(c.i7 a).flatMap<|sO c k)=_;rw[b]
theorem Us{l:List Nm}{g:Nm->List (List Nm)}(h:∀b∈l,SC c t b<|g b):eU c t 1 (l.flatMap g)/\(l.flatMap g).length<=(l.map λb=>qU b+1).sum/\Ef c (l.flatMap g) λr=>∃x∈l.flatMap (tl c),r=[x]:=by
 refine⟨λx a=> ?_,?_,λr=>⟨λm=>m.elim λx n=>n.elim λa e=> ?_,λj=>j.elim λy k=>k.elim λf e=> ?_⟩⟩;obtain⟨b,d,a⟩:=jZ.mp a;exact(h b d).ok x a;induction l with
 |nil=>exact bT _
 |cons b l p=>(refine aE EW ?_;refine aE cM ?_;refine aE sH ?_;refine aE aRE ?_);exact iR (h b<|.head _).f7<|p λx a=>h x<|.tail _ a
 obtain⟨b,d,a⟩:=jZ.mp a;obtain⟨y,f,o⟩:=((h b d).m8 r).mp ⟨x,a,e⟩;exact⟨y,jZ.mpr ⟨b,d,f⟩,o⟩;obtain⟨b,d,f⟩:=jZ.mp f;obtain⟨x,a,o⟩:=((h b d).m8 r).mpr ⟨y,f,e⟩;exact⟨x,jZ.mpr ⟨b,d,a⟩,o⟩
theorem Om:∀(k:Nat) {a:Nm},a∈aY c t->qU a<k->SC c t a (sO c k a)
 |0,_,_,h=>aZ h<|uP _
 |k+1,a,f,h=>by
  cases d:bY c a with
  |some r=>refine aE (VE d) ?_;exact aLM f d
  |none=>refine aE (Xj d) ?_;obtain⟨o,l,j⟩:=Us (g:=sO c k) λb e=>Om k (Gm f e)<|cO ((Gv c a).2 b e)<|gW h;have p:=Zm (c:=c) (k:=1) λx m=>(o x m).1;exact⟨p.ok o,aR p.f7<|aR l (Gv c a).1,XU d▸p.m8 j⟩
theorem Gj(a:Nm):qU a<3:=by cases a<;>exact bV rfl
theorem jx(b:a∈aY c t):SC c t a (gQ c a):=Om 3 b<|Gj a
theorem AW{c b d:Type}(g:c->List b)(f:b->d):∀l:List c,(l.flatMap λa=>(g a).map f)=(l.flatMap g).map f
 |[]=>rfl
 |a::l=>by exact aE EW (aE (AW g f l)<|aE EW<|aE gO rfl)
theorem aN1:∀(k:Nat) {n:Nat} {Q:V->aH->Prop} {a:Nm},bC c t s F i->i[10]? =aA (.g9 33 kG)->a∈aY c t->qU a<k->Q (.a8 ((sO c k a).map cW)) i->WC (n+k+7) 3005 [.a9 10,nm a] i Q:=by
 intro k;induction k with
 |zero=>intro n Q a X Y j p;exact aZ p<|uP _
 |succ k v=>
  intro n Q a X Y j p q;change WC (n+k+7+1) _ _ _ _;refine wc aI9 rfl<|cL Y rfl<|bG X.o rfl<|Cz (n:=n+k+4) X j ?_;refine dL (Bv (bY c a) aC) (λe=> ?_) λe=> ?_;cases f:bY c a with
  |none=>replace e:=f▸e;exact iZ e
  |some r=>replace q:=(VE f)▸q;exact q
  cases f:bY c a with
  |some r=>replace e:=f▸e;exact AP e
  |none=>replace q:=(Xj f)▸q;have h:∀b∈c.i7 a,qU b<k:=λb d=>cO ((Gv c a).2 b d)<|gW p;obtain⟨o,l,_⟩:=Us (g:=sO c k) λb d=>Om k (Gm j d)<|h b d;have m:((c.i7 a).flatMap<|sO c k).length<=3:=aR l<|aR (Gv c a).1<|Gj a;refine bG Y rfl<|cL Y rfl<|bG X.o rfl<|IO (n:=n+k+6) X j<|cH.of rfl<|eE nm (λb=>(sO c k b).map cW) (λb d K q=>bG Y rfl<|v X Y (Gm j d) (h b d)<|cH.of rfl<|eE cW (λl=>[cW l]) (λl m K q=>q _) ?_) ?_;rw[mG];exact q _;rw[AW];exact wG.of (fR m)<|AS (n:=n+k+1) (k:=1) X Y (bT _) (bV rfl) (eU.cv o) (aR m<|bV rfl) q
theorem Wj(X:bC c t s F i)(Y:i[10]? =aA (.g9 33 kG))(b:a∈aY c t)(q:Q (.a8 ((gQ c a).map cW)) i):WC (n+10) 3005 [.a9 10,nm a] i Q:=aN1 3 X Y b (Gj a) q
def knd(k:Nat)(a:List (List Nm)):V:= .a8 [vS "set",.a5 k,.a8 (a.map cW)]
theorem Zu(X:bC c t s F i)(Y:i[10]? =aA (.g9 33 kG))(b:a∈aY c t)(q:Q (knd 1<|gQ c a) i):WC (n+11) 3102 [.a9 10,nm a] i Q:=wc aI5 rfl<|bG Y rfl<|Wj X Y b q
noncomputable def lY(A B:List (List Nm)):List (List Nm):=A.flatMap λa=>B.map λb=>a++b
theorem tE{b c:Type}{f:b->List c}{k:Nat}:∀{A:List b},(∀a∈A,(f a).length<=k)->(A.flatMap f).length<=A.length*k
 |[],_=>eO _
 |a::A,h=>by rw[EW,cM,AC,aQN,kY];exact iR (tE λx d=>h x<|.tail _ d)<|h a<|.head _
theorem WZ(A B:List (List Nm)):(lY A B).length<=A.length*B.length:=tE λa a=>bW<|bP _
theorem aFJ{d c e:Type}(A:List d)(B:List c)(f:d->c->e):(A.flatMap λa=>B.map<|f a)=(A.flatMap λa=>B.map λb=>(a,b)).map λp=>f p.1 p.2:=by rw[←AW];exact aN (A.flatMap ·) (funext λa=>by rw[kL];rfl)
theorem OX{x y:List V}(h:(x++y).length<=cF):nL .Add (.a8 x) (.a8 y) i=aA (.a8 (x++y)):=mJ<|cU h
theorem NX(X:bC c t s F i)(Y:i[10]? =aA (.g9 33 kG)){A B:List (List Nm)}{k j:Nat}(o:eU c t k A)(m:eU c t j B)(v:0<k)(f:k+j<=1000)(r:A.length*B.length<=300)(q:Q (.a8 ((fP c<|lY A B).map cW)) i):WC (n+7) 3010 [.a9 10,.a8 (A.map cW),.a8 (B.map cW)] i Q:=by
 have p:=aR (WZ A B) r;refine wc aNH rfl<|bG Y rfl<|cH.of rfl<|eE cW (λa=>B.map λb=>cW<|a++b) (λa h K q=>cH.of rfl<|eE cW (λb=>[cW (a++b)]) (λb g K q=>wP.of (OX ?_) ?_) ?_) ?_;rw[cM,bP,bP,(o a h).1,(m b g).1];exact aR f<|bV rfl;unfold cW at q;rw[gO]at q;exact q _;rw[mG];exact q _;rw[show(A.flatMap λa=>B.map λb=>cW<|a++b)=(lY A B).map cW by unfold lY;rw[←AW];exact aN (A.flatMap ·) (funext λa=>by refine aE kL ?_;rfl)]
 refine wG.of (fR p) (AS (k:=k+j) X Y (cO v<|dI ..) f (λx l=> ?_) p q);obtain⟨a,h,l⟩:=jZ.mp l;obtain⟨b,g,e⟩:=gJ.mp l;subst e;exact⟨by exact aE cM (aE ((o a h).1)<|aE ((m b g).1) rfl),λy d=>(fU.mp d).elim (λd=>((o a h).2 y d).1) λd=>((m b g).2 y d).1⟩
end
noncomputable def vJ(d:Nm->List Nm):Nat->List Nm->List Nm->Option (List Nm)
 |_,f,[]=>aA f
 |0,_,_=>aC
 |k+1,f,b::r=>match(b::r).find? (λa=>(d a).all λx=>aQ<|x∈f)with
  |none=>aC
  |some a=>vJ d k (f++[a])<|(b::r).erase a
def bE(c:aG)(t:Bool):List Nm:=(vJ (fD c) 20 []<|aY c t).getD []
def bX(c:aG)(t:Bool)(H:List aP):List aP:=(bE c t).flatMap λa=>H.filter λf=>f.g8==a
def nW(f:aP):V:= .a8 [.d9 (dT f.k),nm f.g8,vS "set",f.u7,.a5 0,.a5 (-1)]
structure xK(b:Nat)(w:List (V×V)):Prop where
 a8:w.all (λp=>gP p.1)=aB
 f7:w.length+b<=900000
structure KS(c:aG)(t:Bool)(H:List aP)(F:List (Nat×V))(I J:List (V×V))(b:Nat)(u:aH):Prop where
 X:bC c t H F u
 ko:lZ 1055077183566564 F=aA (.a7 ((bE c t).map nm))
 kw:lZ 2213023116341192372851 F=aA (.a7 ((bX c t H).map nW))
 kp:lZ 8242255868644 F=aA (.a9 6)
 k6:u[6]? =aA (.a7 [.a8 [vS "o",nm E]])
 K:u[10]? =aA (.g9 33 kG)
 x4:u[11]? =aA (.b7 I)
 F8:u[12]? =aA (.b7 J)
 F4:∃w,u[13]? =aA (.b7 w)/\xK b w
 H9:u[14]? =aA (.b7 [])
theorem fN{u:aH}{p q:Nat}{o b:O}(h:u[p]? =aA o)(a:q≠p):(u.set q b)[p]? =aA o:=by refine aE (KR a) ?_;exact h
theorem yL{u:aH}{p:Nat}{o a:O}(h:u[p]? =aA o):(u.set p a)[p]? =aA a:=by exact aE (aSX (iU.mp h).1) rfl
theorem aFT{u:aH}{p:Nat}{o:O}(h:u[p]? =aA o):u.set p o=u:=by obtain⟨b,a⟩:=iU.mp h;refine eJ a ?_;exact List.set_getElem_self b
section
variable{n:Nat}{Q:V->aH->Prop}{u:aH}{c:aG}{t:Bool}{H:List aP}{F:List (Nat×V)}{a b:Nm}{I J:List (V×V)}{m:Nat}{C:cR}{K:PF}{R:PR}{Z:List V}{L:Lc}{P N:Prop}
theorem bC.b9(X:bC c t H F u){p:Nat}(a:5<p)(o:O):bC c t H F (u.set p o):=⟨fN X.o<|jQ<|Hy (bV rfl) a,X.ke,X.ks,fN X.e<|jQ<|Hy (bV rfl) a,fN X.s<|jQ a⟩
theorem KS.w(k:KS c t H F I J m u){b:Nat}{w:List (V×V)}(h:xK b w):KS c t H F I J b (u.set 13<|.b7 w):=
 k.F4.elim λe a=>a.elim λd f=>
 ⟨k.X.b9 (bV rfl) _,k.ko,k.kw,k.kp,fN k.k6<|DB rfl,fN k.K<|DB rfl,fN k.x4<|DB rfl,fN k.F8<|DB rfl,⟨w,yL d,h⟩,fN k.H9<|DB rfl⟩
theorem xK.j4{b a:Nat}{w:List (V×V)}(h:xK b w)(c:a<=b):xK a w:=⟨h.1,aR (fG c _) h.2⟩
noncomputable def WQ(m:Nat)(u:aH)(P:aH->Prop):Prop:=∀w,xK m w->P (u.set 13<|.b7 w)
theorem KS.D0(k:KS c t H F I J m u){b:Nat}(d:b<=m){P:aH->Prop}(h:WQ b u P):P u:=
 k.F4.casesOn λw a=>a.casesOn λf e=>
 aFT f▸h w (e.j4 d)
theorem PZ{k x:V}{p:V×V}{r:List (V×V)}(h:cN p.1 k=aB):gV k x (p::r)=(p.1,x)::r:=bO h
theorem IC{k x:V}{p:V×V}{r:List (V×V)}(h:¬cN p.1 k=aB):gV k x (p::r)=p::gV k x r:=bH h
theorem aOR(k x:V)(d:List (V×V)):(gV k x d).length<=d.length+1:=by
 induction d with
 |nil=>exact bT _
 |cons p r a=>
  by_cases h:cN p.1 k=aB
  rw[PZ h];exact jC _;rw[IC h];exact gZ a
theorem VL{p:V->Bool}{k x:V}(f:p k=aB){d:List (V×V)}:d.all (λe=>p e.1)=aB->(gV k x d).all (λe=>p e.1)=aB:=by
 induction d with
 |nil=>exactλg=>sK.mpr ⟨f,rfl⟩
 |cons y r c=>intro h;obtain⟨b,a⟩:=sK.mp h;by_cases h:cN y.1 k=aB;rw[PZ h];exact sK.mpr ⟨b,a⟩;rw[IC h];exact sK.mpr ⟨b,c a⟩
theorem As{l:List V}{d:List (V×V)}(h:d.all (λp=>gP p.1)=aB)(a:l.all En=aB):dY (.a8 l) d=aB:=by unfold dY;(refine aE h ?_;refine aE (show gP (.a8 l)=aB from a) ?_);rfl
theorem qR{k m:Nat}(h:k<=m)(a:mX m cF=aB:=by rfl):aQ (k<cF)=aB:=cU<|fZ h<|bV a
theorem aC8{k m:Nat}(h:k<=m)(a:jV m cF=aB:=by rfl):aQ (k<=cF)=aB:=cU<|aR h<|bV a
theorem pV{a b:Bool}(h:a=aB)(c:b=aB):(a&&b)=aB:=by rw[h,c];rfl
theorem Nh(k:KS c t H F I J (m+1) u){x:aX}(q:WQ m u (Q .h9)):WC (n+1) 3101 [.a9 10,.a5 0,.d9 x] u Q:=
 k.F4.casesOn λw b=>b.casesOn λf a=>a.casesOn λe d=>
 wc aLB rfl (cL k.K rfl (tX f (pV (As e rfl)<|qR<|aR (dI ..) d) rfl (q _ ⟨VL rfl e,aR (Dy (aOR _ _ w) m) (aR (bW (by rw[kX,kY 1 m])) d)⟩)))
theorem FY(a:List (List Nm)):dZ .Eq (.a8 (a.map cW)) (.a8 []) u=aA a.isEmpty:=by cases a<;>rfl
theorem Wm(a:List (List Nm)):dZ .NotEq (.a8 (a.map cW)) (.a8 []) u=aA (!a.isEmpty):=by cases a<;>rfl
theorem NE(l:List V):dZ .Eq (.a7 l) (.a7 []) u=aA l.isEmpty:=by cases l<;>rfl
theorem MF(l:List V):dZ .NotEq (.a7 l) (.a7 []) u=aA (!l.isEmpty):=by cases l<;>rfl
theorem mI(q:P):wB (yC (.e8 aB) u) P N:= .of rfl (λa=>q) λh=>AP h
theorem fQ(q:N):wB (yC (.e8 aI) u) P N:= .of rfl (λh=>iZ h) λa=>q
theorem CQ(s:aX):dZ .NotEq (.d9 s) (.d9 s) u=aA aI:=aN (λb=>aA<|!b) (lW s)
theorem pX(s:aX):dZ .Eq (.d9 s) (.d9 s) u=aA aB:=aN aA<|lW s
theorem Wp(i:Int):dZ .NotEq (.a5 i) (.a5 i) u=aA aI:=aN (λb=>aA<|!b) (lW i)
theorem aG8(k:KS c t H F I J (m+1) u){i j l:Nat}{A B D:List (List Nm)}(q:WQ m u (Q<|knd i A)):WC (n+2) 3200 [.a9 10,knd i A,.a8 [knd j B,knd l D],.a5 0] u Q:=
 have b:=k.D0 (jC m) q;wc kh rfl (wP.of rfl (dL (FY A) (λa=>cH.of rfl (eE (l:=[(j,B),(l,D)]) (λp=>knd p.1 p.2) (λp=>jE p.2.isEmpty<|knd p.1 p.2) (λp a K q=>wP.of rfl<|sN (FY p.2)<|q _)
  (wG.of (aC8 (tE (k:=1) λp a=>by cases p.2.isEmpty;exact eO _;exact bT _)) (dL (NE _) (λa=>mI<|bG k.K rfl<|Nh k q) λa=>fQ b)))) λa=>fQ b))
theorem XO{b:V}{i:Nat}{A B:List (List Nm)}(Y:u[10]? =aA (.g9 33 kG))(q:Q .h9 u):WC (n+1) 3202 [.a9 10,b,knd i A,knd i B,.a5 0] u Q:=
 wc aE3 rfl (cH.of (l:=[A,B].map<|knd i) rfl (gR 5 (λa a o=>[aA (.a9 10),aA b,aA<|knd i A,aA<|knd i B,aA<|.a5 0,o 0]) (λa a=>u) (λa a=>True) () rfl rfl trivial
  (λa D a o d a a c=>wP.of rfl<|dL (CQ _) (λh=>iZ h) λa=>c () _ _ trivial rfl rfl trivial) λa o a=>wP.of rfl<|wP.of rfl<|dL (Wp _) (λh=>iZ h) λa=>q))
theorem GG{k:Nat}{a:List (List Nm)}(h:eU c t k a):jU c a (fP c a):=Zm (k:=k) λl b=>(h l b).1
def BC(c:aG)(a b:List Nm):List Nm:=(lP c a b).filterMap id
theorem YA{l:List (Option Nm)}(h:aC∉l):l.map oB=(l.filterMap id).map nm:=by
 induction l with
 |nil=>rfl
 |cons x l b=>
  induction x using jP with
  |none=>exact aZ (.head _) h
  |some a=>rw[sH,aQ4 (by rfl),sH,b λe=>h<|.tail _ e];rfl
theorem uk{x:Nm}(e:a∈aY c t)(d:b∈aY c t)(h:nH c a b=aA x):x∈aY c t:=by unfold nH at h;split at h;exact aV h▸e;split at h;exact aV h▸d;exact HT h
theorem aCI{k:Nat}{A B:List Nm}(b:A.length=k/\zY c t A)(a:B.length=k/\zY c t B)(h:aC∉lP c A B):(BC c A B).length=k/\zY c t (BC c A B):=by
 constructor
 have:=aN EH<|YA h;rw[bP,bP]at this;unfold BC;rw[←this];unfold lP;rw[bP,aRD,b.1,a.1,aSZ];intro x f;obtain⟨y,d,e⟩:=aUW.mp f;have e:y=aA x:=e;subst e;obtain⟨p,g,e⟩:=gJ.mp d;obtain⟨j,i⟩:=QS (show(p.1,p.2)∈A.zip B from g);exact uk (b.2 _ j) (a.2 _ i) e
theorem aKS{d c:Type}{A:List d}{B:List c}{p:d×c}(h:p∈A.flatMap λa=>B.map λb=>(a,b)):p.1∈A/\p.2∈B:=by obtain⟨a,i,f⟩:=jZ.mp h;obtain⟨b,g,e⟩:=gJ.mp f;subst e;exact⟨i,g⟩
theorem aI8{x y:List Nm}:dZ .IsNot (wM c x y) .h9 u=aA (!aQ (aC∈lP c x y)):=by
 unfold wM;by_cases h:aC∈lP c x y
 ·(refine aE (bO h) ?_;refine aE (cU h) ?_);rfl
 (refine aE (bH h) ?_;refine aE (fM h) ?_);rfl
theorem Yt(X:bC c t H F u)(Y:u[10]? =aA (.g9 33 kG)){A B:List (List Nm)}{k:Nat}(o:eU c t k A)(s:eU c t k B)(y:0<k)(g:k<=1000)(m:A.length*B.length<=300)(q:∀i:List (List Nm),Q (.a8 (i.map cW)) u):WC (n+7) 3008 [.a9 10,.a8 (A.map cW),.a8 (B.map cW)] u Q:=by
 have v:(A.flatMap λa=>B.map λb=>(a,b)).length<=300:=aR (tE λw w=>bW<|bP _) m;refine wc aC0 rfl<|cH.of rfl<|eE cW (λa=>B.map λb=>wM c a b) (λa r K q=>cH.of rfl<|eE cW (λb=>[wM c a b]) (λb z K q=>bG Y rfl<|Uw X Y (eU.cv o a r).2 (eU.cv s b z).2 ((o a r).1▸g)<|q _) ?_) ?_;rw[mG];exact q _;rw[aFJ];have x:=λp=>aKS (A:=A) (B:=B) (p:=p);generalize(A.flatMap λa=>B.map λb=>(a,b))=j at*;refine wG.of (fR v)<|bG Y rfl<|cH.of rfl<|eE (λ(p:List Nm×List Nm)=>wM c p.1 p.2) (λp=>jE (!aQ (aC∈lP c p.1 p.2)) (cW<|BC c p.1 p.2)) (λp f K q=>dL aI8 (λe=> ?_) λe=> ?_) ?_;have h:aC∉lP c p.1 p.2:=pM (by rwa[mL]at e)
 rw[e,show cW (BC c p.1 p.2)=wM c p.1 p.2 by unfold wM;rw[bH h,YA h];rfl]at q;exact q _
 rw[e]at q;exact q _;rw[mP,show((j.filter λp=> !aQ (aC∈lP c p.1 p.2)).map λp=>cW<|BC c p.1 p.2)=((j.filter λp=> !aQ (aC∈lP c p.1 p.2)).map λp=>BC c p.1 p.2).map cW by refine aE kL ?_;rfl]
 have d:((j.filter λp=> !aQ (aC∈lP c p.1 p.2)).map λp=>BC c p.1 p.2).length<=300:=by rw[bP];exact aR (lA ..) v
 refine wG.of (fR d) (AS (k:=k) X Y y g (λl m=> ?_) d<|q _);obtain⟨p,f,e⟩:=gJ.mp m;obtain⟨P,M⟩:=jA.mp f;obtain⟨L,C⟩:=x p P;subst e;exact aCI (eU.cv o _ L) (eU.cv s _ C) (pM (by rwa[mL]at M))
theorem aLU(k:KS c t H F I J (m+1) u){i:Nat}(l:0<i)(f:i<=1000){A B:List (List Nm)}(p:eU c t i A)(o:eU c t i B)(j:A.length*B.length<=300)(q:WQ m u (Q<|knd i A)):WC (n+8) 3203 [.a9 10,vS "-",knd i A,knd i B,.a5 0] u Q:=
 have e:=k.D0 (jC m) q;wc Uu rfl (bG k.K rfl (XO k.K (wP.of rfl (bG k.K rfl (wP.of rfl (wP.of rfl (Yt k.X k.K p o l f j λd=>dS.of rfl (dL (b:=aI) (by rfl') (λh=>iZ h) λa=>dL (pX _) (λa=>
  dL (FY d) (λa=>wP.of rfl<|dL (Wm A) (λa=>wP.of rfl<|dL (Wm B) (λa=>mI<|bG k.K rfl<|Nh k λw g=>wP.of rfl<|q w g) λa=>fQ<|wP.of rfl e) λa=>fQ<|wP.of rfl e) λa=>fQ<|wP.of rfl e) λh=>AP h))))))))
theorem qx(k:KS c t H F I J (m+1) u){i:Nat}(p:0<i)(d:i<=1000){A B:List (List Nm)}(x:eU c t i A)(s:eU c t i B)(o:A.length*B.length<=300)(j:A.length+B.length<=300)(q:WQ m u (Q<|knd i<|fP c<|A++B)):WC (n+8) 3203 [.a9 10,vS "+",knd i A,knd i B,.a5 0] u Q:=by
 have r:∀l∈A++B,l.length=i/\zY c t l:=λl o=>(fU.mp o).elim (eU.cv x l)<|eU.cv s l;have a:(A++B).length<=300:=cM▸j;have e:∀{u:aH},nL .Add (.a7 (A.map cW)) (.a7 (B.map cW)) u=aA (.a7 ((A++B).map cW)):=by refine aE gO ?_;exact mJ (by refine eJ gO ?_;exact fR a)
 refine wc Uu rfl (bG k.K rfl (XO k.K (wP.of rfl (bG k.K rfl (wP.of rfl (wP.of rfl (Yt k.X k.K x s p d o λy=>dS.of rfl (dL (b:=aI) (by rfl') (λh=>iZ h) λf=>dL (b:=aI) (by rfl') (λh=>iZ h) λf=>dL (b:=aI) (by rfl') (λh=>iZ h) λf=>fQ ?_))))))))
 refine wP.of rfl (qL (FY A)<|wP.of rfl<|qL (FY B) ?_);refine dL (b:= !(A.isEmpty==B.isEmpty)) rfl (λf=>bG k.K rfl (wP.of rfl (wP.of (v:=vS "+: one side is surely empty") (by rfl') (Nh k λw g=> ?_)))) λf=> ?_
 exact bG (k.w g).K rfl (wP.of rfl<|wP.of rfl<|wP.of rfl<|wP.of rfl<|wP.of e<|AS (k.w g).X (k.w g).K p d r a<|q w g);exact bG k.K rfl<|wP.of rfl<|wP.of rfl<|wP.of rfl<|wP.of rfl<|wP.of e<|AS k.X k.K p d r a<|k.D0 (jC m) q
def uO(c:aG)(A B:List (List Nm)):List (List Nm):=A.flatMap λa=>(B.filter λb=> !aQ (nH c (a.headD T) (b.headD T)=aC)).map List.tail
theorem aDX(X:bC c t H F u)(Y:u[10]? =aA (.g9 33 kG)){A B:List (List Nm)}{k:Nat}(hA:eU c t 1 A)(o:eU c t (k+1) B)(P:0<k)(d:k<=999)(i:A.length*B.length<=300)(q:Q (.a8 ((fP c<|uO c A B).map cW)) u):WC (n+7) 3009 [.a9 10,.a8 (A.map cW),.a8 (B.map cW)] u Q:=by
 have p:(uO c A B).length<=300:=aR (tE λs s=>by rw[bP];exact lA ..) i
 refine wc jp rfl (bG Y rfl<|cH.of rfl<|eE cW (λa=>(B.flatMap λb=>jE (!aQ (nH c (a.headD T) (b.headD T)=aC)) (cW b.tail))) (λa m K q=>cH.of rfl<|eE cW (λb=>jE (!aQ (nH c (a.headD T) (b.headD T)=aC)) (cW b.tail)) (λb j K q=> ?_) (q _)) ?_);obtain⟨z,w⟩:=eU.cv hA a m;obtain⟨f,h⟩:=eU.cv o b j;obtain⟨x,ea⟩:=dh.mp z;obtain⟨y,r,eb⟩:=List.exists_cons_of_length_eq_add_one f;subst ea;subst eb;have M:r.length<=999:=nP f▸d;refine bG Y rfl<|wP.of rfl<|wP.of rfl<|wP.of rfl<|RW X Y (w x<|.head _) (h y<|.head _)<|dL (Bv (nH c x y) aC) (λe=>wP.of rfl<|wP.of (v:=cW r) (mJ<|pV rfl<|cU<|gZ<|eO r.length)<|wP.of (OX<|IF (g:=nm) M rfl) ?_) λe=> ?_;rw[show(!aQ (nH c ([x].headD T) ((y::r).headD T)=aC))=aB from e]at q;exact q _;rw[show(!aQ (nH c ([x].headD T) ((y::r).headD T)=aC))=aI from e]at q;exact q _;rw[show(A.flatMap λa=>B.flatMap λb=>jE (!aQ (nH c (a.headD T) (b.headD T)=aC)) (cW b.tail))=(uO c A B).map cW by unfold uO;rw[←AW];exact aN (A.flatMap ·) (funext λa=>by rw[mP,kL];rfl)]
 refine wG.of (fR p) (AS (k:=k) X Y P (uS d) (λl i=> ?_) p q);obtain⟨a,m,L⟩:=jZ.mp i;obtain⟨b,j,e⟩:=gJ.mp L;subst e;obtain⟨f,h⟩:=eU.cv o b (jA.mp j).1;exact⟨by(refine aE List.length_tail ?_;refine aE f ?_);rfl,λy C=>h y<|aRF C⟩
theorem aAS(k:KS c t H F I J (m+1) u){i:Nat}(e:0<i)(d:i<=999){A B:List (List Nm)}(s:eU c t 1 A)(r:eU c t (i+1) B)(g:A.length*B.length<=300)(q:WQ m u (Q<|knd i<|fP c<|uO c A B)):WC (n+8) 3204 [.a9 10,knd 1 A,knd (i+1) B,.a5 0] u Q:=
 wc aJY rfl (cH.of (l:=[(1,A),(i+1,B)].map λp=>knd p.1 p.2) rfl (gR 4 (λa a o=>[aA (.a9 10),aA<|knd 1 A,aA<|knd (i+1) B,aA<|.a5 0,o 0]) (λa a=>u) (λa a=>True) () rfl rfl trivial
  (λa D a o w a a f=>wP.of rfl<|dL (CQ _) (λh=>iZ h) λa=>f () _ _ trivial rfl rfl trivial) λa o a=>wP.of rfl (wP.of rfl (wP.of rfl (dL (b:=aI) (aN aA<|fM λh=>eI.mpr (fG (gZ e) 1)<|tK.mp h) (λh=>iZ h) λa=>
   bG k.K rfl (wP.of rfl (wP.of rfl (wP.of rfl (wP.of (v:= .a5 (i:Nat)) (aN (λz=>aA<|V.a5 z) ((aN (· -(2:Int)) (show((1+(i+1):Nat):Int)=(i:Int)+2 from aN cw (kY 1<|i+1))).trans (ew ..))) (bG k.K rfl<|wP.of rfl<|wP.of rfl<|aDX k.X k.K s r e d g<|aG8 (l:=i+1) (j:=1) k q))))))))))
end
theorem Nq(a b:_root_.Fin 4):(dT a==dT b)=aQ (a=b):=by revert a b;decide+kernel
theorem nS{p:Nm->Bool}(h:yK.all p=aB)(a:Nm):p a=aB:=cX.mp h a<|GF a
theorem Uy(a:Nm)(b:_root_.Fin 4):(iO a==dT b)=aI:=(mL _).mp (bQ (nS (p:=λa=>aQ<|∀b,(!(iO a==dT b))=aB) (by decide+kernel) a) b)
section
variable{n:Nat}{Q:V->aH->Prop}{u:aH}{c:aG}{t:Bool}{w:List aP}{F:List (Nat×V)}{a b s:Nm}{z H:List (V×V)}{m:Nat}{C:cR}{K:PF}{R:PR}{I:List V}{L:Lc}{P J:Prop}{x i:V}{A:List (List Nm)}
theorem cI{o:qW}{c d:Co}(h:dZ o x i u=aA aI)(q:aS C d K I L u):wP (xR<|dZ o x i u) (aS C (.br c d) K) I L u:=dL h (λh=>nomatch h) λa=>q
theorem gL{o:qW}{c d:Co}(h:dZ o x i u=aA aB)(q:aS C c K I L u):wP (xR<|dZ o x i u) (aS C (.br c d) K) I L u:=dL h (λa=>q) λh=>nomatch h
theorem ij(k:KS c t w F z H m u)(q:Q (.a7 ((bX c t w).map nW)) u):WC (n+1) 3620 [.a9 3] u Q:=wc XR rfl<|cL k.X.o k.kw<|wP.of rfl q
theorem ky(k:KS c t w F z H m u)(q:Q (.a7 ((bE c t).map nm)) u):WC (n+1) 3608 [.a9 3] u Q:=wc Xp rfl<|cL k.X.o k.ko<|wP.of rfl q
def xU(c:aG)(t:Bool)(w:List aP)(x:aX):List aP:=(bX c t w).filter λf=>dT f.k==x
theorem IP(k:KS c t w F z H m u)(a:(bX c t w).length<=100){x:aX}(q:Q (.a7 ((xU c t w x).map nW)) u):WC (n+2) 3104 [.a9 10,.d9 x] u Q:=
 wc aNC rfl (cL k.K rfl (bG k.X.o rfl (ij k (cH.of rfl (eE nW (λf=>jE (dT f.k==x)<|nW f) (λf d K q=>wP.of rfl<|sN (b:=dT f.k==x) rfl<|q _)
  (by rw[mP];exact wG.of (fR<|aR (lA ..) a) q))))))
def KG(A:List (List Nm))(a:Nm):List (V×V):=[(vS "this",knd 1 A),(vS "this/",.a8 [vS "sig",nm a])]
def oV(A:List (List Nm))(a:Nm):V:= .b7 (KG A a)
theorem aGV(k:KS c t w F z H m u)(b:a∈aY c t)(q:Q (oV (gQ c a) a) u):WC (n+12) 3103 [.a9 10,nm a] u Q:=
 wc yf rfl (bG k.K rfl (Zu k.X k.K b (wP.of (v:=oV (gQ c a) a) (by rfl') q)))
theorem MP{x:aX}:dZ .In (.d9 x) (oV A a) u=aA (dF (.d9 x)<|KG A a).isSome:=rfl
theorem wh(k:KS c t w F z H m u)(f:(bX c t w).length<=100){x:aX}(d:(dF (.d9 x)<|kV c t w).isSome=aB\/(xU c t w x)≠[])(q:Q (.a5 (-1)) u):WC (n+3) 3310 [.a9 10,.d9 x,oV A a] u Q:=
 wc aIU rfl (dL MP (λb=>mI<|wP.of rfl q) λb=>cL k.K rfl (bG k.X.o rfl (Mu k.X (vK (λb=>mI<|wP.of rfl q) λh=>bG k.K rfl (IP k f (gL (by
  cases g:xU c t w x with
  |nil=>exact aZ g (d.resolve_left λe=>by rw[h]at e;injection e)
  |cons y r=>exact MF _) (mI<|wP.of rfl q)))))))
theorem XL(k:KS c t w F z H m u)(d:(bX c t w).length<=100){x:aX}(b:(dF (.d9 x)<|kV c t w).isSome=aB\/(xU c t w x)≠[])(q:Q (.a8 [vS "",.a8 []]) u):WC (n+4) 3311 [.a9 10,.a8 [vS "name",.a5 0,.d9 x],oV A a] u Q:=
 wc ME rfl (wP.of rfl (gL (pX _) (bG k.K rfl (wP.of rfl (wh k d b (cI rfl (fQ (wP.of rfl (cI (by rfl') (wP.of rfl (cI (by rfl') (fQ q))))))))))))
theorem NB{b:V}{a:aX}{r:List V}(e:(a==cD "name")=aI)(d:(a==cD "box")=aI)(c:(a==cD "bin")=aI)(q:Q (.a8 [vS "",.a8 []]) u):WC (n+4) 3311 [.a9 10,.a8 (.d9 a::r),b] u Q:=
 wc ME rfl (wP.of rfl<|cI (aN aA e)<|fQ<|wP.of rfl<|cI (aN aA d)<|wP.of rfl<|cI (aN aA c)<|fQ q)
theorem aHH{b:V}{a:aX}{x y:V}(c:(a==cD ".")=aI)(q:Q (.a8 [vS "",.a8 []]) u):WC (n+4) 3311 [.a9 10,.a8 [vS "bin",.a5 0,.d9 a,x,y],b] u Q:=
 wc ME rfl (wP.of rfl (cI (by rfl') (fQ (wP.of rfl (cI (by rfl') (wP.of rfl<|gL (pX _)<|wP.of rfl<|cI (aN aA c)<|fQ q))))))
theorem Zg(h:(yK.all λa=> !cN x (nm a))=aB)(a:Nm):cN x (nm a)=aI:=(mL _).mp<|nS h a
theorem pj:dF (nm a) (KG A b)=aC:=by show(if cN (vS "this") (nm a)then _ else if cN (vS "this/") (nm a)then _ else aC)=_;rw[Zg (by decide+kernel) a,Zg (x:=vS "this/") (by decide+kernel) a];rfl
theorem vl{k:_root_.Fin 4}:dF (.d9 (dT k)) (KG A b)=aC:=by show(if cN (vS "this") (.d9 (dT k))then _ else if cN (vS "this/") (.d9 (dT k))then _ else aC)=_;rw[show cN (vS "this") (.d9 (dT k))=aI by revert k;decide+kernel,show cN (vS "this/") (.d9 (dT k))=aI by revert k;decide+kernel];rfl
theorem US(h:a∈aY c t):(dF (nm a)<|kV c t w).isSome=aB:=by rw[Jd h];rfl
theorem VZ{k:_root_.Fin 4}:dF (.d9 (dT k)) (kV c t w)=aC:=by
 unfold kV;induction aY c t with
 |nil=>rfl
 |cons b l d=>show(if cN (nm b) (.d9 (dT k))then _ else dF (.d9 (dT k)) (l.map λa=>(nm a,mE c w a)))=aC;rw[show cN (nm b) (.d9 (dT k))=aI from Uy b k];exact d
theorem aDJ(k:KS c t w F z H m u)(d:a∈aY c t)(q:Q (knd 1<|gQ c a) u):WC (n+12) 3304 [.a9 10,nm a,.a5 0,oV A s] u Q:=
 wc Zi rfl (cI (MP.trans<|aN (λo=>aA o.isSome) pj) (fQ (cL k.K rfl (bG k.X.o rfl (Mu k.X (.of (b:=aB) (aN aA<|US d) (λe=>bG k.K rfl<|Zu k.X k.K d q) λh=>nomatch h))))))
theorem Ib(k:KS c t w F z H m u)(d:(bX c t w).length<=100)(b:a∈aY c t)(q:Q (knd 1<|gQ c a) u):WC (n+13) 3301 [.a9 10,kE<|nm a,oV A s] u Q:=
 wc Ed rfl (wP.of rfl (wP.of rfl (dS.of rfl (bG k.K rfl (XL k d (.inl (US b)) (dS.of rfl (cI (by rfl') (gL (pX _)<|bG k.K rfl<|wP.of rfl<|aDJ k b q))))))))
theorem Im{c b:V}{d:Bool}(Y:u[10]? =aA (.g9 33 kG))(h:∀Q':V->aH->Prop,(∀i D a,Q (knd i D) a->Q' (knd i D) a)->WC n (if d then 3112 else 3301) [.a9 10,c,b] u Q'):WC (n+1) 3111 [.a9 10,c,b,.e8 d] u Q:=
 wc xq rfl (wB.of rfl (λe=>by subst e;exact bG Y rfl<|h _ λi D a q=>wP.of rfl<|cI (CQ _) q) λe=>by subst e;exact bG Y rfl<|h _ λi D a q=>wP.of rfl<|cI (CQ _) q)
theorem Zt{a:aX}{r:List V}{c:V}(Y:u[10]? =aA (.g9 33 kG))(d:(a==cD "arrow")=aI)(h:WC n 3301 [.a9 10,.a8 (.d9 a::r),c] u Q):WC (n+1) 3112 [.a9 10,.a8 (.d9 a::r),c] u Q:=
 wc Xy rfl (wP.of rfl<|gL (aN (λb=>aA<|!b) d) (bG Y rfl h))
theorem DU(k:KS c t w F z H m u)(d:(bX c t w).length<=100)(e:a∈aY c t)(f:Bool)(q:Q (knd 1<|gQ c a) u):WC (n+15) 3111 [.a9 10,kE<|nm a,oV A s,.e8 f] u Q:=by
 refine Im k.K λQ' b=> ?_;induction f using eT with
 |true=>exact Zt k.K (by decide+kernel) (Ib k d e<|b _ _ _ q)
 |false=>exact Ib k d e<|b _ _ _ q
theorem Jc(i j:Nat):nL .Add (.a5 i) (.a5 j) u=aA (.a5 (i+j:Nat)):=rfl
theorem SH(k:KS c t w F z H m u){l r a d:V}{i j:Nat}{X Y:List (List Nm)}(h:eU c t i X)(g:eU c t j Y)(f:0<i)(b:i+j<=1000)(e:X.length*Y.length<=300)
  (p:∀{Q':V->aH->Prop},Q' (knd i X) u->WC (n+7) 3111 [.a9 10,l,a,.e8 aB] u Q') (o:∀{Q':V->aH->Prop},Q' (knd j Y) u->WC (n+7) 3111 [.a9 10,r,a,.e8 aB] u Q') (q:Q (knd (i+j)<|fP c<|lY X Y) u):WC (n+8) 3112 [.a9 10,sM d l r,a] u Q:=
 wc Xy rfl (wP.of rfl<|cI (CQ _)<|bG k.K rfl<|wP.of rfl<|p<|bG k.K rfl<|wP.of rfl<|o<|dS.of rfl<|wP.of rfl<|wP.of rfl<|wP.of (Jc i j)<|bG k.K rfl<|wP.of rfl<|wP.of rfl<|NX k.X k.K h g f b e q)
theorem yu(k:KS c t w F z H m u){l r a:V}{i j:Nat}{X Y:List (List Nm)}(g:eU c t i X)(f:eU c t j Y)(e:0<i)(b:i+j<=1000)(d:X.length*Y.length<=300)
  (o:∀{Q':V->aH->Prop},Q' (knd i X) u->WC (n+7) 3111 [.a9 10,l,a,.e8 aI] u Q') (h:∀{Q':V->aH->Prop},Q' (knd j Y) u->WC (n+7) 3111 [.a9 10,r,a,.e8 aI] u Q') (q:Q (knd (i+j)<|fP c<|lY X Y) u):WC (n+8) 3306 [.a9 10,sM (vS "") l r,a] u Q:=
 wc sj rfl (wP.of rfl (cI (by rfl') (wP.of rfl (cI (by rfl') (fQ<|bG k.K rfl<|wP.of rfl<|o<|bG k.K rfl<|wP.of rfl<|h<|dS.of rfl<|wP.of rfl<|wP.of rfl<|wP.of (Jc i j)<|bG k.K rfl<|wP.of rfl<|wP.of rfl<|NX k.X k.K g f e b d q)))))
theorem si(k:KS c t w F z H m u){l r a:V}(h:WC (n+4) 3306 [.a9 10,sM (vS "") l r,a] u Q):WC (n+5) 3301 [.a9 10,sM (vS "") l r,a] u Q:=
 wc Ed rfl (wP.of rfl (wP.of rfl (dS.of rfl (bG k.K rfl (NB (by decide+kernel) (by decide+kernel) (by decide+kernel) (dS.of rfl (cI (by rfl') (cI (by rfl') (cI (by rfl') (cI (by rfl') (cI (by rfl') (cI (by rfl') (cI (by rfl') (gL (pX _)<|bG k.K rfl h))))))))))))))
theorem aE9(k:KS c t w F z H m u){a:V}(q:Q (knd 1 []) u):WC (n+5) 3301 [.a9 10,.a8 [vS "none",.a5 0],a] u Q:=
 wc Ed rfl (wP.of rfl (wP.of rfl (dS.of rfl (bG k.K rfl (NB (by decide+kernel) (by decide+kernel) (by decide+kernel) (dS.of rfl (cI (by rfl') (cI (by rfl') (cI (by rfl') (gL (by rfl') (cI (by rfl') q)))))))))))
def bK(c:aG)(t:Bool):List Nm:=(bE c t).filter λa=>aQ<|bY c a=aA a
theorem rm(k:KS c t w F z H m u)(b:∀a∈bE c t,a∈aY c t)(d:(bE c t).length<=10)(q:Q (.a7 ((bK c t).map nm)) u):WC (n+4) 3006 [.a9 10] u Q:=
 wc vd rfl (cL k.K rfl (bG k.X.o rfl (ky k (cH.of rfl (eE nm (λa=>jE (aQ<|bY c a=aA a)<|nm a) (λa e K q=>cL k.K rfl<|bG k.X.o rfl<|Cz k.X (b a e)<|sN (tS (bY c a)<|aA a)<|q _)
  (by rw[mP];exact wG.of (fR<|aR (lA ..) d) q))))))
theorem aBG(k:KS c t w F z H m u)(g:∀a∈bE c t,a∈aY c t)(f:(bE c t).length<=10){h:V}(q:Q (knd 1<|fP c<|(bK c t).map λa=>[a]) u):WC (n+7) 3301 [.a9 10,.a8 [vS "univ",.a5 0],h] u Q:=by
 have d:((bK c t).map λa=>[a]).length<=10:=bP (as:=bK c t) _▸aR (lA ..) f;refine wc Ed rfl (wP.of rfl (wP.of rfl (dS.of rfl (bG k.K rfl (NB (by decide+kernel) (by decide+kernel) (by decide+kernel) (dS.of rfl (cI (by rfl') (cI (by rfl') (cI (by rfl') (gL (by rfl') (gL (pX _)<|bG k.K rfl<|bG k.K rfl<|rm k g f<|cH.of rfl<|eE nm (λa=>[cW [a]]) (λa o K q=>q _) ?_)))))))))))
 rw[mG,show((bK c t).map λa=>cW [a])=((bK c t).map λa=>[a]).map cW by rw[kL];rfl]
 refine wG.of (fR d) (AS (k:=1) k.X k.K (bT _) (bV rfl) (λl f=> ?_) (aR d<|bV rfl) q);obtain⟨a,j,e⟩:=gJ.mp f;subst e;exact⟨rfl,λb i=>by rw[dU.mp i];exact g a (jA.mp j).1⟩
theorem Ts(k:KS c t w F z H (m+1) u){b:Bool}{l r d:V}{i:Nat}{X Y:List (List Nm)}(g:0<i)(a:i<=1000)(j:eU c t i X)(h:eU c t i Y)(f:X.length*Y.length<=300)(e:X.length+Y.length<=300)
  (p:∀{Q':V->aH->Prop},Q' (knd i X) u->WC (n+8) 3301 [.a9 10,l,d] u Q') (o:∀{Q':V->aH->Prop},Q' (knd i Y) u->WC (n+8) 3301 [.a9 10,r,d] u Q') (q:WQ m u (Q (knd i (if b then fP c (X++Y)else X)))):WC (n+9) 3305 [.a9 10,CW (if b then "+"else "-") l r,d] u Q:=by
 refine wc xi rfl (dS.of rfl ?_);induction b using eT with
 |true=>exact cI (by rfl') (bG k.K rfl (p (cI (by rfl') (bG k.K rfl (o (cI (by rfl') (cI (by rfl') (gL (by rfl') (bG k.K rfl<|qx k g a j h f e q)))))))))
 |false=>exact cI (by rfl') (bG k.K rfl (p (cI (by rfl') (bG k.K rfl (o (cI (by rfl') (cI (by rfl') (gL (by rfl') (bG k.K rfl<|aLU k g a j h f q)))))))))
theorem TJ(k:KS c t w F z H m u){a:Bool}{l r b:V}(h:WC (n+4) 3305 [.a9 10,CW (if a then "+"else "-") l r,b] u Q):WC (n+5) 3301 [.a9 10,CW (if a then "+"else "-") l r,b] u Q:=
 wc Ed rfl (wP.of rfl (wP.of rfl (dS.of rfl (bG k.K rfl (aHH (by cases a<;>decide+kernel) (dS.of rfl (cI (by rfl') (cI (by rfl') (cI (by rfl') (cI (by rfl') (cI (by rfl') (cI (by rfl') (gL (pX _)<|bG k.K rfl h)))))))))))))
def kF(s:Nm)(f:_root_.Fin 4):V:= .a8 [nm s,.d9 (dT f)]
theorem aI6(k:KS c t w F z H m u){f:_root_.Fin 4}{v:V}(a:z.all (λp=>gP p.1)=aB)(b:dF (.a8 [nm s,.d9 (dT f)]) z=aA v)(q:Q v u):WC (n+1) 3105 [.a9 10,nm s,.d9 (dT f)] u Q:=
 wc Xw rfl (cL k.K rfl (cI (jG rfl (iJ k.x4)<|(aN (hV oK)<|uN (x:=kF s f)<|As a rfl).trans<|aN (λo:Option V=>aA<|!o.isSome) b) (cL k.K rfl (Bn (iJ k.x4) (by dsimp only[qK];rw[As a rfl];exact b) q))))
theorem aMX(k:KS c t w F z H m u)(j:s∈aY c t)(r:(bX c t w).length<=100){e:_root_.Fin 4}{f:aP}(y:xU c t w (dT e)=[f])(h:f.g8=s)(q:Q (.a7 [nm s]) u):WC (n+4) 3107 [.a9 10,.d9 (dT e),oV A s] u Q:=
 wc aKJ rfl (wP.of rfl (.of (v:= .a8 [vS "sig",nm s]) (by rfl') (wP.of rfl (gL (Bv (aA s) aC) (cL k.K rfl (bG k.X.o rfl (UO k.X j λl o=>wP.of (mJ<|fR (g:=nm) (l:=s::l)<|gZ o) (bG k.K rfl (IP k r (y▸cH.of rfl (eE (l:=[f]) nW (λf=>[nm s]) (λg p K q=>by rw[dU.mp p]at*;obtain⟨d,i,C⟩:=Vb (c:=nm) (a:=s) (λb=>aN aA<|zM b s) (s::l);have i:=C.mpr (.head _)▸i;refine wP.of (v:=nm s) (aN (λx=>aA<|nm x) h)<|gL i<|wP.of (v:=nm s) (aN (λx=>aA<|nm x) h)<|q _) (wG.of rfl q))))))))))))
theorem aK4(k:KS c t w F z H m u){e:_root_.Fin 4}{j:Nat}{B:List (List Nm)}(d:z.all (λp=>gP p.1)=aB)(i:dF (.a8 [nm s,.d9 (dT e)]) z=aA (knd j B))(r:eU c t j B)(o:0<j)(f:j<=1000)(g:B.length<=300)(q:Q (knd j<|fP c B) u):WC (n+7) 3106 [.a9 10,.d9 (dT e),.a7 [nm s],.a5 0] u Q:=by
 refine wc aEM rfl (cH.of rfl (eE (l:=[s]) nm (λs=>[knd j B]) (λx h K q=>by rw[dU.mp h];exact bG k.K rfl<|aI6 k d i<|q _) (wG.of rfl (cH.of rfl (eE (l:=[B]) (knd j) (λa=>[]) (λa a K q=>wP.of rfl<|wP.of rfl<|wP.of rfl<|cI (Wp _)<|q _) (wG.of rfl (cI rfl
  (wP.of rfl (wP.of rfl (bG k.K rfl (cH.of rfl (eE (l:=[B]) (knd j) (λB=>B.map cW) (λx a K q=>wP.of rfl (cH.of rfl (eE cW (λb=>[cW b]) (λb a K q=>q _) (by rw[mG];exact q _)))) ?_))))))))))))
 rw[show([B].flatMap λB=>B.map cW)=B.map cW from fS _];exact wG.of (fR g)<|AS k.X k.K o f (eU.cv r) g q
theorem aH6(k:KS c t w F z H (m+1) u)(y:s∈aY c t)(r:(bX c t w).length<=100){e:_root_.Fin 4}{f:aP}(x:xU c t w (dT e)=[f])(i:f.g8=s){j:Nat}{B:List (List Nm)}(g:z.all (λp=>gP p.1)=aB)(C:dF (.a8 [nm s,.d9 (dT e)]) z=aA (knd (j+1) B))(M:eU c t 1 A)(l:eU c t (j+1) B)(L:0<j)(a:j<=999)(K:B.length<=300)(d:A.length*(fP c B).length<=300)(q:WQ m u (Q<|knd j<|fP c<|uO c A<|fP c B)):WC (n+10) 3304 [.a9 10,.d9 (dT e),.a5 0,oV A s] u Q:=
 wc Zi rfl (cI (MP.trans<|aN (λo=>aA o.isSome) vl) (fQ (cL k.K rfl (bG k.X.o rfl (Mu k.X (.of (b:=aI) (aN (λo:Option V=>aA o.isSome) VZ) (λh=>nomatch h) λN=>bG k.K rfl (IP k r (x▸gL (MF _) (bG k.K rfl (aMX k y r x i (gL rfl (bG k.K rfl (.of (v:=knd 1 A) (by rfl')
  (bG k.K rfl<|aK4 k g C l (gM _) (gZ a) K<|aAS k L a M ((GG l).ok l) d q))))))))))))))
theorem aIA(k:KS c t w F z H m u)(a:(bX c t w).length<=100){e:_root_.Fin 4}{f:aP}(b:xU c t w (dT e)=[f])(h:WC (n+4) 3304 [.a9 10,.d9 (dT e),.a5 0,oV A s] u Q):WC (n+5) 3301 [.a9 10,kE<|.d9 (dT e),oV A s] u Q:=
 wc Ed rfl (wP.of rfl (wP.of rfl (dS.of rfl (bG k.K rfl (XL k a (.inr (b▸Hu _ _)) (dS.of rfl (cI (by rfl') (gL (pX _)<|bG k.K rfl<|wP.of rfl h))))))))
end
noncomputable def sV:Ty->Nat
 | .h9=>1| .u8=>1| .nm _=>1| .l6 _=>1| .j0 _ _ _=>1| .r9 _ _=>2| .v2 _ _ _ _=>2| .u6 _ _ _=>3
def Cl(c:aG)(a b:Nm):List (List Nm):=fP c<|lY (gQ c a)<|gQ c b
def FU(c:aG)(t:Bool):Ty->List (List Nm)
 | .h9=>[]
 | .u8=>fP c<|(bK c t).map λa=>[a]
 | .nm a=>gQ c a
 | .l6 _=>[]
 | .j0 d a b=>if d then fP c (gQ c a++gQ c b)else gQ c a
 | .r9 a b=>Cl c a b
 | .v2 a b x y=>fP c<|Cl c a b++Cl c x y
 | .u6 _ x y=>fP c<|lY (gQ c B)<|Cl c x y
noncomputable def rN(c:aG)(t:Bool):Ty->Prop
 | .nm a=>a∈aY c t
 | .l6 _=>False
 | .j0 _ a b=>a∈aY c t/\b∈aY c t
 | .r9 a b=>a∈aY c t/\b∈aY c t
 | .v2 a b x y=>(a∈aY c t/\b∈aY c t)/\x∈aY c t/\y∈aY c t
 | .u6 _ x y=>B∈aY c t/\x∈aY c t/\y∈aY c t
 |_=>True
structure CT(c:aG)(t:Bool)(k m:Nat)(T:List Nm->Prop)(C:List (List Nm)):Prop where
 ok:eU c t k C
 f7:C.length<=m
 m8:Ef c C T
noncomputable def oE(c:aG)(a:Nm)(r:List Nm):Prop:=∃x∈tl c a,r=[x]
inductive fH {α:Type} (P R:List α->Prop) (x:List α):Prop
 |mk (y z:List α) (hy:P y) (hz:R z) (e:x=y++z)
theorem fH.E4{a:Type}{P R c b:List a->Prop}{x:List a}(h:fH P R x)(f:∀y,P y->c y)(g:∀y,R y->b y):fH c b x:=
 h.casesOn λy z i d e=>⟨y,z,f y i,g z d,e⟩
theorem fH.E6{c:Type}{P R S:List c->Prop}{x:List c}(h:fH (fH P R) S x):fH P (fH R S) x:=
 h.casesOn λk z f d e=>f.casesOn λa b i g j=>⟨a,b++z,i,⟨b,z,g,d,rfl⟩,e.trans ((aN (· ++z) j).trans<|dK ..)⟩
theorem fH.N4{d:Type}{P R S:List d->Prop}{x:List d}(h:fH P (fH R S) x):fH (fH P R) S x:=
 h.casesOn λa j g c e=>c.casesOn λb z f c i=>⟨a++b,z,⟨a,b,g,f,rfl⟩,c,e.trans ((aN (a++·) i).trans (dK ..).symm)⟩
theorem Xa{c:Type}{A B:List (List c)}{x:List c}:(x∈A.flatMap λa=>B.map λb=>a++b)↔fH (· ∈A) (· ∈B) x:=
 jZ.trans ⟨λh=>h.elim λa h=>(gJ.mp h.2).elim λb g=>⟨a,b,h.1,g.1,g.2.symm⟩,λh=>h.casesOn λa b f d e=>⟨a,f,gJ.mpr ⟨b,d,e.symm⟩⟩⟩
noncomputable def Az:(List Nm->Prop)->(List Nm->Prop)->List Nm->Prop:=fH
section
variable{c:aG}{t:Bool}{a b:Nm}
theorem CT.j4{k m n:Nat}{T:List Nm->Prop}{C:List (List Nm)}(h:CT c t k m T C)(l:jV m n=aB):CT c t k n T C:=⟨h.ok,aR h.f7<|bV l,h.m8⟩
theorem CT.x7{k m:Nat}{T:List Nm->Prop}{C:List (List Nm)}(h:CT c t k m T C):CT c t k m T (fP c C):=
 have p:=GG h.ok;⟨p.ok h.ok,aR p.f7 h.f7,p.m8 h.m8⟩
theorem mD(b:a∈aY c t):CT c t 1 3 (oE c a) (gQ c a):=have s:=jx b;⟨s.ok,aR s.f7<|Gj a,s.m8⟩
theorem CT.j7{k m n:Nat}{S T:List Nm->Prop}{A B:List (List Nm)}(h:CT c t k m S A)(g:CT c t k n T B):CT c t k (m+n) (λr=>S r\/T r) (A++B):=
 ⟨λl a=>(fU.mp a).elim (h.ok l)<|g.ok l,cM▸iR h.f7 g.f7,λr=>
  ⟨λx=>x.elim (λx=>((h.m8 r).mp x).elim λl i=>i.elim λa e=>⟨l,rG _ a,e⟩) λx=>((g.m8 r).mp x).elim λl f=>f.elim λa e=>⟨l,kM _ a,e⟩,
   λb=>b.elim λl d=>d.elim λa e=>(fU.mp a).imp (λx=>(h.m8 r).mpr ⟨l,x,e⟩) λx=>(g.m8 r).mpr ⟨l,x,e⟩⟩⟩
theorem OZ{k:Nat}{A:List (List Nm)}(h:eU c t k A){l:List Nm}(b:l∈A):∃r:List Nm,l.map (bY c)=r.map aA:=by
 have:=(h l b).2;clear h b;induction l with
 |nil=>exact⟨[],rfl⟩
 |cons x l d=>obtain⟨r,f⟩:=d λa g=>this a<|.tail _ g;obtain⟨y,e⟩:=wR.mp (this x<|.head _).2;exact⟨y::r,by rw[sH,sH,f,e]⟩
theorem Me{x y:List Nm}(h:x.map aA=y.map aA):x=y:=(aUV λa a h=>aV h).mp h
theorem Gz{l:List Nm}{A B:List (List Nm)}:l∈lY A B↔fH (· ∈A) (· ∈B) l:=Xa
theorem CT.t0{k j m n:Nat}{S T:List Nm->Prop}{A B:List (List Nm)}(h:CT c t k m S A)(g:CT c t j n T B):CT c t (k+j) (m*n) (Az S T) (lY A B):=by
 refine⟨λl s=> ?_,aR (WZ A B)<|LE h.f7 g.f7,λr=>⟨λq=> ?_,λi=>i.elim λl o=>o.elim λs e=> ?_⟩⟩;obtain⟨a,b,f,d,e⟩:=Gz.mp s;subst e;exact⟨by rw[cM,(h.ok a f).1,(g.ok b d).1],λy p=>(fU.mp p).elim ((h.ok a f).2 y)<|(g.ok b d).2 y⟩
 obtain⟨x,y,C,p,e⟩:=q;obtain⟨a,f,F⟩:=(h.m8 x).mp C;obtain⟨b,d,v⟩:=(g.m8 y).mp p;exact⟨a++b,Gz.mpr ⟨a,b,f,d,rfl⟩,by rw[e,gO,gO,F,v]⟩
 obtain⟨a,b,f,d,v⟩:=Gz.mp s;obtain⟨x,z⟩:=OZ h.ok f;obtain⟨y,w⟩:=OZ g.ok d;exact⟨x,y,(h.m8 x).mpr ⟨a,f,z⟩,(g.m8 y).mpr ⟨b,d,w⟩,Me (by rw[←e,v,gO,gO,z,w])⟩
noncomputable def Ok(c:aG)(t:Bool):Ty->List Nm->Prop
 | .h9=>λd=>False
 | .u8=>λr=>∃x∈bK c t,r=[x]
 | .nm a=>oE c a
 | .l6 _=>λd=>False
 | .j0 e a b=>if e thenλr=>oE c a r\/oE c b r else oE c a
 | .r9 a b=>Az (oE c a)<|oE c b
 | .v2 a b x y=>λr=>Az (oE c a) (oE c b) r\/Az (oE c x) (oE c y) r
 | .u6 _ x y=>Az (oE c B)<|Az (oE c x)<|oE c y
theorem Cw(e:a∈aY c t)(d:b∈aY c t):CT c t 2 9 (Az (oE c a)<|oE c b) (Cl c a b):=((mD e).t0<|mD d).x7
theorem aAW(m:∀a∈bE c t,a∈aY c t)(d:(bE c t).length<=10):CT c t 1 27 (λr=>∃x∈bK c t,r=[x]) ((bK c t).map λa=>[a]):=by
 refine⟨λl d=> ?_,by rw[bP];exact aR (lA ..)<|aR d<|bV rfl,λr=>⟨λh=>h.elim λx i=>i.elim λk e=> ?_,λf=>f.elim λl g=>g.elim λd e=> ?_⟩⟩
 obtain⟨a,j,e⟩:=gJ.mp d;obtain⟨p,o⟩:=jA.mp j;subst e;exact⟨rfl,λb n=>by rw[dU.mp n];exact⟨m a p,bQ o▸rfl⟩⟩
 exact⟨[x],gJ.mpr ⟨x,k,rfl⟩,by rw[e,sH,bQ (jA.mp k).2];rfl⟩
 obtain⟨a,j,q⟩:=gJ.mp d;rw[←q,sH,bQ (jA.mp j).2]at e;exact⟨a,j,Me (y:=[a]) e.symm⟩
theorem kx(g:∀a∈bE c t,a∈aY c t)(i:(bE c t).length<=10):∀ty:Ty,rN c t ty->CT c t (sV ty) 27 (Ok c t ty) (FU c t ty)
 | .h9,_=>⟨λf h=>(nomatch h),eO _,λf=>⟨iI,λd=>d.elim λf e=>e.elim λh f=>(nomatch h)⟩⟩
 | .u8,_=>(aAW g i).x7
 | .nm a,h=>(mD (a:=a) h).j4 rfl
 | .j0 aB a b,h=>((mD h.1).j7<|mD h.2).x7.j4 rfl
 | .j0 aI a b,h=>(mD h.1).j4 rfl
 | .r9 a b,h=>(Cw h.1 h.2).j4 rfl
 | .v2 a b x y,h=>((Cw h.1.1 h.1.2).j7<|Cw h.2.1 h.2.2).x7.j4 rfl
 | .u6 _ x y,h=>((mD h.1).t0<|Cw h.2.1 h.2.2).x7
end
theorem Ck{a b m n:Nat}(h:a<=m)(g:b<=n)(l:jV (m*n) 300=aB):a*b<=300:=aR (LE h g)<|bV l
theorem Vi{a b m n:Nat}(h:a<=m)(g:b<=n)(l:jV (m+n) 300=aB):a+b<=300:=aR (iR h g)<|bV l
section
variable{n:Nat}{Q:V->aH->Prop}{u:aH}{c:aG}{t:Bool}{H:List aP}{F:List (Nat×V)}{a b s:Nm}{I J:List (V×V)}{m:Nat}{A:List (List Nm)}
theorem Ta(k:KS c t H F I J m u)(d:(bX c t H).length<=100)(f:a∈aY c t)(e:b∈aY c t)(q:Q (knd 2<|Cl c a b) u):WC (n+17) 3301 [.a9 10,sM (vS "") (kE<|nm a)<|kE<|nm b,oV A s] u Q:=
 have h:=mD f;have g:=mD e;si k (yu k h.ok g.ok (bT _) (bV rfl) (Ck h.f7 g.f7 rfl) (DU (n:=n) k d f aI) (DU (n:=n) k d e aI) q)
theorem Ub(k:KS c t H F I J m u)(d:(bX c t H).length<=100)(f:a∈aY c t)(e:b∈aY c t){i:V}(q:Q (knd 2<|Cl c a b) u):WC (n+17) 3111 [.a9 10,sM i (kE<|nm a)<|kE<|nm b,oV A s,.e8 aB] u Q:=
 have h:=mD f;have g:=mD e;Im k.K λQ' j=>SH (n:=n+8) k h.ok g.ok (bT _) (bV rfl) (Ck h.f7 g.f7 rfl) (DU (n:=n) k d f aB) (DU (n:=n) k d e aB)<|j _ _ _ q
theorem Fk{b:aX}{r:List V}{c:V}(Y:u[10]? =aA (.g9 33 kG))(e:(b==cD "arrow")=aI)(h:∀Q':V->aH->Prop,(∀i D a,Q (knd i D) a->Q' (knd i D) a)->WC n 3301 [.a9 10,.a8 (.d9 b::r),c] u Q'):WC (n+2) 3111 [.a9 10,.a8 (.d9 b::r),c,.e8 aB] u Q:=
 Im Y λQ' d=>Zt Y e<|h Q' d
theorem aPO(k:KS c t H F I J (m+1) u)(g:(bX c t H).length<=100)(l:∀a∈bE c t,a∈aY c t)(o:(bE c t).length<=10):∀ty:Ty,rN c t ty->WQ m u (Q<|knd (sV ty)<|FU c t ty)->WC (n+21) 3111 [.a9 10,vV ty,oV A s,.e8 aB] u Q
 | .h9,_,q=>Fk k.K (by rfl') λQ' f=>aE9 k<|f _ _ _<|k.D0 (jC m) q
 | .u8,_,q=>Fk k.K (by rfl') λQ' f=>aBG k l o<|f _ _ _<|k.D0 (jC m) q
 | .nm a,h,q=>DU k g h aB<|k.D0 (jC m) q
 | .j0 i a b,h,q=>have e:=mD h.1;have d:=mD h.2;Fk k.K (by cases i<;>rfl') λQ' f=>TJ k<|Ts k (bT _) (bV rfl) e.ok d.ok (Ck e.f7 d.f7 rfl) (Vi e.f7 d.f7 rfl) (Ib k g h.1) (Ib k g h.2) λw j=>f _ _ _<|q w j
 | .r9 a b,h,q=>Ub k g h.1 h.2<|k.D0 (jC m) q
 | .v2 a b x y,h,q=>have e:=Cw h.1.1 h.1.2;have d:=Cw h.2.1 h.2.2;Fk k.K (by rfl') λQ' f=>TJ (a:=aB) k<|Ts (b:=aB) k (gM _) (bV rfl) e.ok d.ok (Ck e.f7 d.f7 rfl) (Vi e.f7 d.f7 rfl) (Ta (n:=n) k g h.1.1 h.1.2) (Ta (n:=n) k g h.2.1 h.2.2) λw j=>f _ _ _<|q w j
 | .u6 _ x y,h,q=>have e:=mD h.1;have d:=Cw h.2.1 h.2.2;Im k.K λQ' f=>SH (n:=n+12) k e.ok d.ok (bT _) (bV rfl) (Ck e.f7 d.f7 rfl) (DU k g h.1 aB) (Ub k g h.2.1 h.2.2)<|f _ _ _<|k.D0 (jC m) q
end
theorem PS{c:Type} [DecidableEq c]{l:List c}:∀{m:List c},l.Nodup->(∀a∈l,a∈m)->l.length<=m.length:=by
 induction l with
 |nil=>exactλi i=>eO _
 |cons a l j=>intro m h d;have g:=d a<|.head _;have:=j (m:=m.erase a) (EX.mp h).2 λb f=>(List.mem_erase_of_ne (show b≠a fromλe=>(EX.mp h).1<|e▸f)).mpr (d b<|.tail _ f);rw[aRG g]at this;exact aR (gZ this)<|bW<|aRH<|aRI g
theorem Wl{c:Type} [DecidableEq c](l:List c):∀acc:List c,acc.Nodup->(iP acc l).Nodup:=by
 induction l with
 |nil=>exactλj h=>h
 |cons x r f=>intro acc h;by_cases d:x∈acc;rw[JB d];exact f acc h;rw[GQ d];exact f _<|DC.mpr ⟨h,EX.mpr ⟨sJ,.nil⟩,λa i b g e=>d<|dU.mp g▸e▸i⟩
theorem iw(c:aG)(a:List (List Nm)):(fP c a).Nodup:=((IG _).2.nodup_iff.mpr<|Wl _ _ .nil).filter _
section
variable{c:aG}{t:Bool}{a b s:Nm}
theorem aLJ(c:aG)(a:Nm):∃x,x∈tl c a:=by
 have:=qM (λc a=> !(tl c a).isEmpty) (λc a=>by rw[Kr]) (by decide+kernel) c a
 cases e:tl c a with
 |nil=>rw[e]at this;injection this
 |cons x r=>exact⟨x,.head _⟩
theorem aK6(f:a∈aY c t):∃x,x∈gQ c a:=
 (aLJ c a).elim λx d=>
 (((mD f).m8 [x]).mp ⟨x,d,rfl⟩).elim λl b=>b.elim λe g=>
 ⟨l,e⟩
theorem aJ8(c:aG)(a:Nm):nH c a a=aA a:=by unfold nH;rw[show tR c a a=aB by unfold tR;rw[cU rfl];rfl];rfl
theorem vv(L:s∈aY c t){j m:Nat}{T:List Nm->Prop}{C B:List (List Nm)}(z:CT c t j m T C)(X:∀l∈B,l∈lY (gQ c s) C)(Q:∀a∈lY (gQ c s) C,∃b∈B,a.map (bY c)=b.map (bY c)):CT c t j m T (fP c<|uO c (gQ c s) B):=by
 have M:=(mD L).ok;have split:∀l∈B,∃x k,[x]∈gQ c s/\k∈C/\l=x::k:=λl d=>
  (Gz.mp<|X l d).casesOn λa b h g e=>(dh.mp (M a h).1).elim λx N=>⟨x,b,N▸h,g,e.trans (aN (· ++b) N)⟩
 have f:∀l∈uO c (gQ c s) B,l∈C:=λl d=>by obtain⟨a,h,v⟩:=jZ.mp d;obtain⟨b,g,e⟩:=gJ.mp v;obtain⟨x,k,v,w,A⟩:=split b (jA.mp g).1;subst A;exact e▸w
 have F:eU c t j (uO c (gQ c s) B):=λl d=>z.ok l<|f l d;have p:=GG F;refine⟨p.ok F,aR (PS (iw ..) λl d=>f l<|p.e7 l d) z.f7,p.m8 λr=>(z.m8 r).trans ⟨λo=>o.elim λk q=>q.elim λw e=> ?_,λi=>i.elim λl n=>n.elim λd e=>⟨l,f l d,e⟩⟩⟩;obtain⟨a,h⟩:=aK6 L;obtain⟨b,g,A⟩:=Q (a++k)<|Gz.mpr ⟨a,k,h,w,rfl⟩;obtain⟨x,K,v,P,Z⟩:=split b g;subst Z;refine⟨K,jZ.mpr ⟨[x],v,gJ.mpr ⟨x::K,jA.mpr ⟨g,?_⟩,rfl⟩⟩,?_⟩;show(!aQ (nH c x x=aC))=aB;rw[aJ8];rfl;obtain⟨y,Y⟩:=dh.mp (M a h).1;subst Y;exact(BM A).2.symm.trans e
end
theorem aFZ{k:V}(b:cN k k=aB)(v:V)(d:List (V×V)):dF k (gV k v d)=aA v:=by
 induction d with
 |nil=>exact bO b
 |cons p r a=>
  by_cases h:cN p.1 k=aB
  rw[PZ h];exact bO h;rw[IC h];exact(bH h).trans a
noncomputable def Fr(u a:aH):Prop:=a.length=u.length/\∀p,p≠11->p≠12->p≠13->a[p]? =u[p]?
theorem Fr.n7(u:aH):Fr u u:=⟨rfl,λa a a a=>rfl⟩
theorem Fr.b9{u a:aH}(h:Fr u a){p:Nat}(f:p=11\/p=12\/p=13)(o:O):Fr u (a.set p o):=⟨Hl.trans h.1,λq d c b=>by rw[KR λe=>f.elim (λx=>d<|e.symm.trans x) λx=>x.elim (λx=>c<|e.symm.trans x) λx=>b<|e.symm.trans x];exact h.2 q d c b⟩
section
variable{n:Nat}{Q:V->aH->Prop}{u:aH}{c:aG}{t:Bool}{H:List aP}{F:List (Nat×V)}{a b s:Nm}{I J:List (V×V)}{m:Nat}{A:List (List Nm)}
theorem iD{a b:Nat}(h:bZ a b=aI):a≠b:=DB h
theorem KS.Q9(k:KS c t H F I J m u)(a:List (V×V)):KS c t H F a J m (u.set 11<|.b7 a):=
 k.F4.elim λw b=>b.elim λe d=>
 ⟨k.X.b9 (bV rfl) _,k.ko,k.kw,k.kp,fN k.k6<|iD rfl,fN k.K<|iD rfl,yL k.x4,fN k.F8<|iD rfl,⟨w,fN e<|iD rfl,d⟩,fN k.H9<|iD rfl⟩
theorem KS.P4(k:KS c t H F I J m u)(b:List (V×V)):KS c t H F I b m (u.set 12<|.b7 b):=
 k.F4.elim λw a=>a.elim λe d=>
 ⟨k.X.b9 (bV rfl) _,k.ko,k.kw,k.kp,fN k.k6<|iD rfl,fN k.K<|iD rfl,fN k.x4<|iD rfl,yL k.F8,⟨w,fN e<|iD rfl,d⟩,fN k.H9<|iD rfl⟩
theorem YL{f:_root_.Fin 4}{d:List (V×V)}{b:Bool}(a:d.all (λp=>gP p.1)=aB)(h:(dF (kF s f) d).isSome=b):uZ (kF s f) (.b7 d)=aA b:=(uN (x:=kF s f)<|As a rfl).trans<|aN aA h
theorem aH9{f:_root_.Fin 4}{d:List (V×V)}{v:V}(a:d.all (λp=>gP p.1)=aB)(h:dF (kF s f) d=aA v):qK (.b7 d) (kF s f)=aA v:=by dsimp only[qK];rw[show dY (kF s f) d=aB from As a rfl];exact h
theorem aN3{f:_root_.Fin 4}:cN (kF s f) (kF s f)=aB:=bQ (nS (p:=λs=>aQ<|∀f,cN (kF s f) (kF s f)=aB) (by decide+kernel) s) f
theorem xo(k:KS c t H F I J (m+1) u)(y:s∈aY c t)(hf:(bX c t H).length<=100){e:_root_.Fin 4}{f:aP}(he:xU c t H (dT e)=[f])(M:f.g8=s)(h:I.all (λp=>gP p.1)=aB)(r:J.all (λp=>gP p.1)=aB)(o:dF (kF s e) I=aC)(z:dF (kF s e) J=aC)(A:I.length<=100)(L:J.length<=100){j:Nat}{C:List (List Nm)}{T:List Nm->Prop}(P:CT c t j 27 T C)(Y:j<=900)
  (x:∀{a:aH} {Q':V->aH->Prop},KS c t H F I (gV (kF s e) (.e8 aB) J) (m+1) a->WQ m a (Q'<|knd j C)->WC (n+21) 3111 [.a9 10,f.u7,oV (gQ c s) s,.e8 aB] a Q')
  (q:∀a,KS c t H F (gV (kF s e) (knd (j+1)<|fP c<|lY (gQ c s) C) I) (gV (kF s e) (.e8 aB) J) m a->Fr u a->Q (knd (j+1)<|fP c<|lY (gQ c s) C) a):WC (n+22) 3105 [.a9 10,nm s,.d9 (dT e)] u Q:=by
 refine wc Xw rfl (cL k.K rfl<|gL (jG rfl (iJ k.x4)<|aN (hV oK)<|YL (b:=aI) h<|aN Qg o)<|bG k.K rfl<|IP k hf<|he▸cH.of rfl (eE (l:=[f]) nW (λf=>[nW f]) (λg Z K q=>wP.of rfl<|gL (tS (aA g.g8) (aA s)|>.trans (aN aA<|cU<|aN aA<|dU.mp Z▸M))<|q _)<|wG.of rfl<|wP.of rfl ?_));refine cL k.K rfl<|cI (jG rfl (iJ k.F8)<|YL (b:=aI) r<|aN Qg z)<|cL k.K rfl<|tX k.F8 (pV (As r rfl)<|qR L) rfl ?_;have i:=k.P4<|gV (kF s e) (.e8 aB) J;refine bG i.K rfl<|wP.of rfl<|bG i.K rfl<|aGV i y<|x i λw X=> ?_;have d:=i.w X;have N:=mD y;refine wP.of rfl<|wP.of (Jc j 1)<|bG d.K rfl<|bG d.K rfl<|Wj d.X d.K y<|wP.of rfl<|NX d.X d.K N.ok P.ok (bT _) (aR (fG Y 1)<|bV rfl) (Ck N.f7 P.f7 rfl) ?_;refine cL d.K rfl<|tX d.x4 (pV (As h rfl)<|qR A) rfl ?_;have v:=d.Q9<|gV (kF s e) (knd (j+1)<|fP c<|lY (gQ c s) C) I;exact cL v.K rfl<|Bn (iJ v.x4) (aH9 (VL rfl h)<|aFZ aN3 ..)<|q _ v<|(((Fr.n7 u).b9 (.inr (.inl rfl)) _).b9 (.inr (.inr rfl)) _).b9 (.inl rfl) _
structure vY(c:aG)(t:Bool)(H:List aP)(I:List (V×V))(s:Nm)(e:_root_.Fin 4)(j:Nat)(C:List (List Nm))(T:List Nm->Prop):Prop where
 Q6:∃f,xU c t H (dT e)=[f]/\f.g8=s
 pos:0<j
 le:j<=10
 ct:CT c t j 27 T C
 R0:dF (kF s e) I=aA (knd (j+1)<|fP c<|lY (gQ c s) C)
theorem aDP(k:KS c t H F I J (m+1) u)(g:s∈aY c t)(i:(bX c t H).length<=100)(b:I.all (λp=>gP p.1)=aB){e:_root_.Fin 4}{j:Nat}{C:List (List Nm)}{T:List Nm->Prop}(h:vY c t H I s e j C T)(q:WQ m u (Q<|knd j<|fP c<|uO c (gQ c s)<|fP c<|fP c<|lY (gQ c s) C)):WC (n+21) 3111 [.a9 10,vV<|.l6 e,oV (gQ c s) s,.e8 aB] u Q:=by obtain⟨f,l,v⟩:=h.Q6;have d:=mD g;have a:=(d.t0 h.ct).x7;rw[kY 1 j]at a;exact Fk k.K (by rfl') λQ' r=>aIA k i l<|aH6 k g i l v b h.R0 d.ok a.ok h.pos (aR h.le<|bV rfl) (aR a.f7<|bV rfl) (Ck d.f7 a.x7.f7 rfl) λw o=>r _ _ _<|q w o
theorem aKF(i:s∈aY c t){j:Nat}{C:List (List Nm)}{T:List Nm->Prop}(m:CT c t j 27 T C):CT c t j 27 T (fP c<|uO c (gQ c s)<|fP c<|fP c<|lY (gQ c s) C):=
 have k:=(mD i).t0 m;have h:=GG k.ok;have g:=GG k.x7.ok;vv i m (λl n=>h.e7 l<|g.e7 l n) λa q=>
  (h.M5 a q).elim λb f=>f.elim λp v=>
  (g.M5 b p).elim λd e=>e.elim λo r=>
  ⟨d,o,v.trans r⟩
end
noncomputable abbrev Tp:=List Nat
noncomputable def bR(l:Tp):V:= .a8 (l.map λi=> .a5 (i:Nat))
def cV(l:List Tp):V:= .a8 (l.map bR)
noncomputable def JW(a b:Tp):Bool:=aQ<|a<b
theorem JY(a b:Nat):((a:Int)==(b:Int))=aQ (a=b):=Dp.mpr<|beq_iff_eq.trans<|aQF.trans decide_eq_true_iff.symm
theorem aN0(a b:Tp):jS (bR a) (bR b)=aA (aQ<|a=b):=KI (i:=λi:Nat=>V.a5 i) (f:=lD 39) (λa b=>aN aA<|JY a b) a b
theorem LV(a b:Tp):cN (bR a) (bR b)=aQ (a=b):=aN (KT · aI)<|aN0 a b
theorem UM(a:Tp):∀b:Tp,Dc (bR a) (bR b)=aA (JW a b):=by
 induction a with
 |nil=>exactλb=>b.casesOn rfl λc c=>aN aA (cU<|aUX ..).symm
 |cons a r f=>
  intro b;induction b using bM with
  |nil=>exact aN aA (fM<|fb _).symm
  |cons b t=>
   show((lD 1 (.a5 (a:Nat))<|.a5 (b:Nat)).bind λx=>match x with|false=>DR (.a5 (a:Nat)) (.a5 (b:Nat))|true=>Dc (bR r)<|bR t)=_
   rw[show lD 1 (.a5 (a:Nat)) (.a5 (b:Nat))=aA (aQ<|a=b)from aN aA (JY a b)];by_cases e:a=b;rw[cU e];exact(f t).trans (aN aA (decide_eq_decide.mpr ⟨λh=>AH.mpr<|.inr ⟨e,h⟩,λh=>(AH.mp h).elim (λh=>aZ e<|lU h) (·.2)⟩));rw[fM e];exact aN aA<|decide_eq_decide.mpr ⟨λh=>AH.mpr<|.inl (tK.mp h),λh=>(AH.mp h).elim tK.mpr λh=>aZ h.1 e⟩
noncomputable def xI(l:List Tp):Prop:=l.Pairwise λa b=>a<b
theorem aOI{a b:Tp}(h:¬a<b)(n:a≠b):b<a:=fc λc=>n<|aUY (fe.mp c)<|fe.mp h
theorem wg(x:Tp)(l:List Tp):∃m:List Tp,uC (bR x) (l.map bR)=m.map bR/\m.Perm (x::l)/\(xI l->x∉l->xI m):=by
 induction l with
 |nil=>exact⟨[x],rfl,.refl _,λb b=>Dm _ _⟩
 |cons y r i=>show ∃m:List Tp,(if Bj (bR x) (bR y)then bR x::bR y::r.map bR else bR y::uC (bR x) (r.map bR))=m.map bR/\_;rw[show Bj (bR x) (bR y)=JW x y from aN (KT · aI) (UM x y)];by_cases c:x<y;rw[show JW x y=aB from cU c];refine⟨x::y::r,rfl,.refl _,λh b=> .cons (λz a=>(dA.mp a).elim (λe=>e▸c) λa=>ff c<|(EV.mp h).1 z a) h⟩;rw[show JW x y=aI from fM c];obtain⟨m,k,g,j⟩:=i;refine⟨y::m,by rw[k];rfl,(g.cons y).trans<|.swap ..,λh f=> .cons (λz a=>(dA.mp<|g.mem_iff.mp a).elim (λe=>e▸aOI c λe=>f<|e▸ .head _)<|(EV.mp h).1 z) (j (EV.mp h).2 λe=>f<|.tail _ e)⟩
theorem Xc(l:List Tp):∃m:List Tp,nY (l.map bR)=m.map bR/\m.Perm l/\(l.Nodup->xI m):=by
 induction l with
 |nil=>exact⟨[],rfl,.refl _,λn=> .nil⟩
 |cons x r c=>obtain⟨m,k,a,j⟩:=c;obtain⟨b,i,g,f⟩:=wg x m;refine⟨b,?_,g.trans<|a.cons x,λh=>f (j (EX.mp h).2) λe=>(EX.mp h).1<|a.mem_iff.mp e⟩;show uC (bR x) (nY<|r.map bR)=_;rw[k,i]
theorem SE{l m:List Tp}(g:xI l)(f:xI m)(h:∀x,x∈l↔x∈m):l=m:=
 have c:∀{l:List Tp},xI l->l.Nodup:=λh=>h.imp λ{a b} h (e:a=b)=>fg b<|e▸h
 ((List.perm_ext_iff_of_nodup (c g)<|c f).mpr h).eq_of_pairwise (λa b i i x y=>aZ (ff x y)<|fg a) g f
def gF(l:List Tp):List Tp:=aUT<|Xc<|iP [] l
theorem Eo(l:List Tp):nY ((iP [] l).map bR)=(gF l).map bR/\(gF l).Perm (iP [] l)/\((iP [] l).Nodup->xI (gF l)):=aUU<|Xc<|iP [] l
theorem oA{l:List Tp}{x:Tp}:x∈gF l↔x∈l:=(Eo l).2.1.mem_iff.trans<|(Eh ..).trans ⟨λh=>h.resolve_left sJ,.inr⟩
theorem Ov(l:List Tp):xI (gF l):=(Eo l).2.2<|Wl _ _ .nil
theorem Ew(l:List Tp):(gF l).length<=l.length:=(Eo l).2.1.length_eq▸aR (WJ l []) (bW<|jH _)
theorem NM{l m:List Tp}(a:xI m)(h:∀x,x∈l↔x∈m):gF l=m:=SE (Ov l) a λx=>oA.trans<|h x
theorem Of{l m:List Tp}(h:∀x,x∈l↔x∈m):gF l=gF m:=NM (Ov m) λx=>(h x).trans oA.symm
theorem XD:V.a8 []=cV (gF []):=aN (λl=>V.a8<|l.map bR) (NM (l:=[]) (m:=[]) .nil λa=>au).symm
theorem Si{b:Type}{l:List b}{i:Nat}{a:b}{f:b->List Tp}{B:List Tp}(c:l[i]? =aA a)(e:∀x,x∈B↔x∈f a):gF (gF ((l.take i).flatMap f)++B)=gF ((l.take<|i+1).flatMap f):=Of λx=>by rw[fU,oA,tP,c,LF,fU,e,show((aA a).toList.flatMap f)=f a from fS _]
noncomputable def kR(A B:List Tp):List Tp:=A.flatMap λa=>B.map λb=>a++b
theorem Mp(A B:List Tp):(kR A B).length<=A.length*B.length:=tE λa a=>bW<|bP _
theorem ED{A B:List Tp}{x:Tp}:x∈kR A B↔fH (· ∈A) (· ∈B) x:=Xa
structure dM(k:Nat)(l:List Tp):Prop where
 r8:xI l
 f7:∀x∈l,x.length=k
theorem Vz{a:Tp}:∀{c:Tp} (b g:Tp),a.length=c.length->a<c->a++b<c++g:=by
 induction a with
 |nil=>exactλ{c} f f e h=>aZ (Dz e.symm▸h:([]:Tp)<[])<|fb _
 |cons x a i=>exactλ{c}=>c.casesOn (λf f f h=>aZ h<|fb _) λy c b g j h=>AH.mpr<|(AH.mp h).imp id λh=>⟨h.1,i b g (nP j) h.2⟩
theorem dM.t0{k j:Nat}{A B:List Tp}(c:dM k A)(l:dM j B):dM (k+j) (kR A B):=by refine⟨aRJ.mpr ⟨λa r=>AE.mpr<|l.r8.imp λh=>List.append_left_lt h,?_⟩,λx f=> ?_⟩;refine c.r8.imp_of_mem λ{a b} i g h x f y m=> ?_;obtain⟨p,t,o⟩:=gJ.mp f;obtain⟨q,s,n⟩:=gJ.mp m;rw[←o,←n];exact Vz p q ((c.f7 _ i).trans (c.f7 _ g).symm) h;obtain⟨a,b,i,g,e⟩:=ED.mp f;rw[e,cM,c.f7 a i,l.f7 b g]
section
variable{n:Nat}{Q:V->aH->Prop}{u:aH}
theorem aOZ{f:Type} [DecidableEq f]{c:f->V}(j:∀a b,cN (c a) (c b)=aQ (a=b)){a:f}{x:V}(acc:List f):gV (c a) x (acc.map λa=>(c a,x))=(if a∈acc then acc else acc++[a]).map λa=>(c a,x):=by
 induction acc with
 |nil=>rfl
 |cons b acc i=>show(if cN (c b) (c a)then(c b,x)::acc.map (λa=>(c a,x))else(c b,x)::gV (c a) x (acc.map λa=>(c a,x)))=_;rw[j,i];by_cases e:b=a;rw[cU e,bO rfl,bO<|e▸ .head _];rfl;rw[fM e,bH cC];by_cases h:a∈acc;rw[bO h,bO<|.tail _ h];rfl;rw[bH h,bH λg=>(dA.mp g).elim (λg=>e g.symm) h];rfl
theorem VF(b:Tp):gP (bR b)=aB:=by show(b.map λi=>V.a5 (i:Nat)).all En=aB;rw[qZ];exact cX.mpr λa a=>rfl
theorem Xd{g:Tp->V}(l:List Tp):(l.map λa=>(bR a,g a)).all (λp=>gP p.1)=aB:=by rw[qZ];exact cX.mpr λa b=>VF a
theorem Tu(a:Tp){g:Tp->V}(l:List Tp):dY (bR a) (l.map λa=>(bR a,g a))=aB:=by unfold dY;rw[VF,Xd];exact Qq _
theorem aAG{e:Type} [DecidableEq e]{c:e->V}{x:V}(i:∀a b,cN (c a) (c b)=aQ (a=b))(g:∀a (l:List e),dY (c a) (l.map λa=>(c a,x))=aB)(l:List e):∀acc:List e,yE (l.map λa=> .a8 [c a,x]) (acc.map λa=>(c a,x))=aA ((iP acc l).map λa=>(c a,x)):=by
 induction l with
 |nil=>exactλj=>rfl
 |cons a r f=>
  intro acc;show(match dY (c a) (acc.map λa=>(c a,x))with|true=>yE (r.map λa=> .a8 [c a,x]) (gV (c a) x<|acc.map λa=>(c a,x))|false=>aC)=aA ((if a∈acc then iP acc r else iP (acc++[a]) r).map λa=>(c a,x))
  rw[g,aOZ i];refine(f _).trans ?_;by_cases h:a∈acc;rw[bO h,bO h];rw[bH h,bH h]
theorem IS{l:List Tp}(h:∀x∈l,x≠[]):(l.map bR).all (xF Eb)=aB:=by
 rw[qZ];refine cX.mpr λx c=> ?_;induction x using bM with
 |nil=>exact aZ rfl<|h _ c
 |cons a x=>show(x.map λi=>V.a5 (i:Nat)).all Eb=aB;rw[qZ];exact cX.mpr λb b=>rfl
theorem Vn(l:List Tp):iX 3 (.a7 (l.map λa=> .a8 [bR a,.e8 aB])) u=aA (.b7 ((iP [] l).map λa=>(bR a,.e8 aB))):=aN (hV V.b7)<|aAG (c:=bR) LV (λa l=>Tu a l) l []
theorem aB7{l:List Tp}(h:∀x∈l,x≠[]):iX 1 (.b7 ((iP [] l).map λa=>(bR a,.e8 aB))) u=aA (.a7 ((gF l).map bR)):=by
 show(match((iP [] l).map λa=>(bR a,V.e8 aB)).all λp=>gP p.1 with|true=>rY (((iP [] l).map λa=>(bR a,V.e8 aB)).map Lh)|false=>aC)=_
 rw[Xd,kL];show gI (jL<|(iP [] l).map bR) (.a7 (nY<|(iP [] l).map bR))=_;rw[(Eo l).1];exact mJ (by unfold jL;rw[IS λx b=>h x<|((Eh ..).mp b).resolve_left sJ];rfl)
theorem aIF{l:List Tp}(h:∀x∈l,x≠[])(a:l.length<=100000)(q:Q (cV<|gF l) u):WC (n+1) 999 [cV l] u Q:=
 wc zc rfl (cH.of rfl (eE bR (λx=>[.a8 [bR x,.e8 aB]]) (λx b K q=>q _) (by rw[mG];exact wG.of (fR a)<|wP.of (Vn l)<|wP.of (aB7 h)<|wP.of rfl q)))
theorem DJ{a:Type}{g:a->V}{A B:List a}(b:A.length+B.length<=cF):nL .Add (.a8 (A.map g)) (.a8 (B.map g)) u=aA (.a8 ((A++B).map g)):=by rw[gO];exact OX (by rw[cM,bP,bP];exact b)
theorem vW{k m:Nat}(h:k<=m)(a:jV m cF=aB:=by rfl):k<=cF:=aR h<|bV a
theorem Ze{A B:List Tp}(e:∀x∈A,x≠[])(c:∀x∈B,x≠[])(a:A.length+B.length<=100000)(q:Q (cV<|gF<|A++B) u):WC (n+2) 1099 [cV A,cV B] u Q:=
 wc aA2 rfl (wP.of (DJ<|vW a)<|aIF (λx b=>(fU.mp b).elim (e x)<|c x) (cM▸a) q)
theorem aFL{A B:List Tp}(c:A.length*B.length<=100000)(e:∀x∈A,∀y∈B,x.length+y.length<=1000)(q:Q (cV<|kR A B) u):WC (n+1) 1399 [cV A,cV B] u Q:=by
 refine wc aBR rfl (cH.of rfl (eE bR (λa=>B.map λb=>bR<|a++b) (λa g K q=>cH.of rfl (eE bR (λb=>[bR (a++b)]) (λb f K q=>wP.of (DJ<|vW<|e a g b f)<|q _) (by rw[mG];exact q _))) ?_))
 rw[show(A.flatMap λa=>B.map λb=>bR<|a++b)=(kR A B).map bR by unfold kR;rw[←AW];exact aN (A.flatMap ·) (funext λa=>by rw[kL];rfl)]
 exact wG.of (fR<|aR (Mp A B) c) (wP.of rfl q)
theorem aIM(x:Tp)(l:List Tp):dZ .NotIn (bR x) (.b7 ((iP [] l).map λa=>(bR a,.e8 aB))) u=aA (!aQ (x∈l)):=by refine aN (hV oK) ((uN<|Tu x _).trans<|aN aA ?_);rw[AA (c:=bR) (g:=λb=>V.e8 aB) LV,show aQ (x∈l)=aQ (x∈iP [] l)from decide_eq_decide.mpr ((Eh ..).trans ⟨λh=>h.resolve_left sJ,.inr⟩).symm];by_cases h:x∈iP [] l;rw[bO h,cU h];rfl;rw[bH h,fM h];rfl
theorem aEG{A B:List Tp}(c:A.length<=100000)(b:B.length<=100000)(q:Q (cV<|A.filter λx=> !aQ (x∈B)) u):WC (n+1) 1199 [cV A,cV B] u Q:=
 wc aCP rfl (cH.of rfl (eE bR (λx=>[.a8 [bR x,.e8 aB]]) (λx a K q=>q _) (by rw[mG];exact wG.of (fR b) (wP.of (Vn B) (cH.of rfl (eE bR (λx=>jE (!aQ (x∈B)) (bR x)) (λx a K q=>sN (aIM x B)<|q _)
  (by rw[mP];exact wG.of (fR<|aR (lA ..) c)<|wP.of rfl q)))))))
theorem aGY{A B:List Tp}(c:A.length<=100000)(b:B.length<=100000)(h:∀x∈A,x∈B)(q:Q (.e8 aB) u):WC (n+2) 1299 [cV A,cV B] u Q:=
 wc zi rfl (aEG c b (by rw[eh.mpr λx a=>by rw[cU (h x a)];exact cC];exact qL rfl q))
end
structure dV(L:List Nm)(d:Nm->List Tp):Prop where
 b9:∀r,dM 1<|d r
 f7:∀r,(d r).length<=3
def aME(L:List Nm)(d:Nm->List Tp):V:= .b7 (L.map λr=>(nm r,cV<|d r))
def uF(L:List Nm)(d:Nm->List Tp):List (Nat×V):=[(2248903923324291953395,.a9 3),(63304348275,.a9 10),(496761459,aME L d)]
def tD(c:aG)(d:Nm->List Tp)(a:Nm):List Tp:=(tl c a).flatMap d
def eY(c:aG)(d:Nm->List Tp)(a:Nm):List Tp:=gF<|tD c d a
theorem Bl{k:Nat}{l:List Tp}(h:dM (k+1) l):∀x∈l,x≠[]:=λx a e=>by have:=h.f7 x a;rw[e]at this;exact vU this
theorem dM.M6{k:Nat}{l:List Tp}(h:dM k l):gF l=l:=NM h.r8 λa=>au
theorem Pu{k:Nat}{l:List Tp}(h:∀x∈l,x.length=k):dM k (gF l):=⟨Ov l,λx a=>h x<|oA.mp a⟩
section
variable{n:Nat}{Q:V->aH->Prop}{u:aH}{c:aG}{t:Bool}{w:List aP}{F:List (Nat×V)}{a b s:Nm}{d:Nm->List Tp}{L:List Nm}
theorem UK(c:aG)(a:Nm):(tl c a).length<=3:=bQ (qM (λc a=>aQ<|(tl c a).length<=3) (λc a=>by rw[Kr]) (by decide+kernel) c a)
theorem aLV(e:∀x∈bK c t,x∈L){x:Nm}(f:a∈aY c t)(b:x∈tl c a):bY c x=aA x:=
 bQ (cX.mp (qM (λc a=>(tl c a).all λx=>aQ<|bY c x=aA x) (λc a=>by rw[Kr];simp only[JG]) (by decide+kernel) c a) x b)
theorem YZ(b:dV L d)(c:aG)(a:Nm):(tD c d a).length<=9:=aR (tE λr e=>b.f7 r)<|BQ 3<|UK c a
theorem WS(f:dV L d){x:Tp}(b:x∈tD c d a):x≠[]:=(jZ.mp b).elim λr e=>e.elim λg b=>Bl (k:=0) (f.b9 r) x b
theorem Tt(h:bY c a=aC):tD c d a=(c.i7 a).flatMap (tD c d):=by unfold tD;rw[XU h];exact List.flatMap_assoc
theorem pD{a:Type}{l:List a}{i k:Nat}(h:l.length<=k):(l.take i).length<=k:=aR (KW ..) h
theorem aKX:∀(k:Nat) {n:Nat} {Q:V->aH->Prop} {a:Nm},bC c t w F u->u[28]? =aA (.g9 23 (uF L d))->dV L d->(∀a∈aY c t,∀r,bY c a=aA r->r∈L)->a∈aY c t->qU a<k->Q (cV<|eY c d a) u->WC (n+k+4) 2301 [.a9 28,nm a] u Q:=by
 intro k;induction k with
 |zero=>intro n Q a X U h y p s;exact aZ s<|uP _
 |succ k A=>
  intro n Q a X U h y p s q;change WC (n+k+4+1) _ _ _ _;refine wc aCV rfl<|cL U rfl<|bG X.o rfl<|Cz (n:=n+k+1) X p<|dL (Bv (bY c a) aC) (λe=> ?_) λe=> ?_;cases j:bY c a with
  |none=>rw[j]at e;exact iZ e
  |some r=>
   refine cL U rfl (wP.of (v:=cV<|d r) ?_ ?_);show(match dY (nm r) (L.map λr=>(nm r,cV<|d r))with|true=>dF (nm r) (L.map λr=>(nm r,cV<|d r))|false=>aC)=_
   rw[show dY (nm r) _=aB from jT (Bg (c:=nm) (λg=>rfl) L),AA (c:=nm) rS,bO<|y a p r j];unfold eY tD at q;rw[Cq j,QT,(h.b9 r).M6]at q;exact q
  cases j:bY c a with
  |some r=>rw[j]at e;exact AP e
  |none=>
   refine cL U rfl (bG X.o rfl (IO X p (cH.of rfl (gR 4 (λi g o=>[aA (.a9 28),aA<|nm a,aA<|oB aC,aA<|cV<|gF<|((c.i7 a).take i).flatMap<|tD c d,o 0]) (λg g=>u) (λg g=>True) () (by show _=[_,_,_,aA<|cV<|gF [],_];rw[←XD];rfl) rfl trivial
    (λi b g o H z g C=> ?_) λg o g=>by rw[oO,←Tt j];exact q))))
   have m:=fT z;refine bG U rfl<|A X U h y (Gm p m) (cO ((Gv c a).2 b m)<|gW s)<|Ze (n:=n+k+2) (λx l=> ?_) (λx l=>WS h<|oA.mp l) ?_ ?_;obtain⟨b,_,l⟩:=jZ.mp<|oA.mp l;exact WS h l;exact aR (iR (aR (Ew _)<|aR (tE λb g=>YZ h c b)<|BQ 9<|pD<|Kg c a)<|aR (Ew _)<|YZ h c b)<|bV rfl;rw[Si (f:=tD c d) (B:=eY c d b) z λx=>oA];exact C () _ _ trivial rfl rfl trivial
theorem YC(X:bC c t w F u)(U:u[28]? =aA (.g9 23 (uF L d)))(f:dV L d)(e:∀a∈aY c t,∀r,bY c a=aA r->r∈L)(b:a∈aY c t)(q:Q (cV<|eY c d a) u):WC (n+7) 2301 [.a9 28,nm a] u Q:=aKX 3 X U f e b (Gj a) q
noncomputable def vI(d:Nm->List Tp):List Nm->Tp->Prop
 |[],x=>x=[]
 |r::a,x=>fH (· ∈d r) (vI d a) x
def CO(d:Nm->List Tp)(acc:List Tp)(a:List Nm):List Tp:=a.foldl (λacc r=>kR acc<|d r) acc
def Fy(d:Nm->List Tp):List Nm->List Tp
 |[]=>[]
 |r::a=>CO d (d r) a
theorem aID(b:List Nm):∀(acc:List Tp) (x:Tp),x∈CO d acc b↔fH (· ∈acc) (vI d b) x:=by
 induction b with
 |nil=>exactλacc x=>⟨λh=>⟨x,[],h,rfl,(fS x).symm⟩,λh=>h.casesOn λa y i g e=>by rw[e,show y=[]from g,fS];exact i⟩
 |cons r b f=>exactλacc x=>(f (kR acc<|d r) x).trans ⟨λh=>(h.E4 (λc=>ED.mp) λc=>id).E6,λh=>(fH.N4 (R:=(· ∈d r)) h).E4 (λc=>ED.mpr) λc=>id⟩
theorem Gu{r:Nm}{a:List Nm}{x:Tp}:x∈Fy d (r::a)↔vI d (r::a) x:=aID a (d r) x
theorem aPB(h:∀r,(d r).length<=3)(a:List Nm):∀acc:List Tp,(CO d acc a).length<=acc.length*3^a.length:=by
 induction a with
 |nil=>exactλacc=>bW (Nat.mul_one _).symm
 |cons r a b=>intro acc;refine aR (b<|kR acc<|d r)<|aR (BQ _<|aR (Mp ..)<|DA _<|h r)<|bW ?_;rw[AC,aUZ,Nat.mul_assoc,Nat.mul_comm 3]
theorem Nn(h:∀r,dM 1<|d r){r:List Nm}:∀{x:Tp},vI d r x->x.length=r.length:=by
 induction r with
 |nil=>exactλ{x} f=>aN EH (show x=[]from f)
 |cons r i b=>exactλ{x} q=>q.casesOn λa y g c e=>by rw[e,cM,(h r).f7 a g,b c,AC,kY]
theorem Ni(c:dV L d){b:Nm}{a:List Nm}(h:a.length<=3):(CO d (d b) a).length<=81:=aR (aPB c.f7 _ _)<|LE (c.f7 b)<|aU0 (n:=3) (gM 2) h
theorem GB{a m:Nat}(h:a<=m)(b:jV m 1000000=aB:=by rfl):nT a=aB:=
 pV (cU (aTP (by decide+kernel) (uT a))) (cU (Qo (Do.mpr<|aR h<|bV b) (by decide+kernel)))
theorem yq{a b:Int}(h:(nT a&&nT b)=aB):nL .Mult (.a5 a) (.a5 b) u=aA (.a5 (a*b)):=mJ h
theorem NJ{a b m k:Nat}(h:a<=m)(g:b<=k)(c:jV m 1000000=aB)(e:jV k 1000000=aB):nL .Mult (.a5 a) (.a5 b) u=aA (.a5 (a*b:Nat)):=by rw[Int.natCast_mul];exact yq<|pV (GB h c)<|GB g e
theorem Sd{a b:Nat}(h:a<=b):dZ .Gt (.a5 a) (.a5 b) u=aA aI:=aN aA<|fM<|EK.mpr<|Do.mpr h
theorem jj{l r:List Nm}(f:dV L d)(h:l.map (bY c)=r.map aA):(l.flatMap λa=>[cV (eY c d a)])=r.map λr=>cV (d r):=by
 induction l generalizing r with
 |nil=>induction r using bM with|nil=>rfl|cons=>exact Fh h
 |cons a l e=>induction r using bM with
  |nil=>exact vR h
  |cons b r=>
   obtain⟨i,g⟩:=BM h;rw[sH,←e g,EW,show eY c d a=d b by unfold eY tD;rw[Cq i,QT,(f.b9 b).M6]]
   rfl
theorem oo(X:bC c t w F u)(U:u[28]? =aA (.g9 23 (uF L d)))(f:dV L d)(N:∀a∈aY c t,∀r,bY c a=aA r->r∈L){l:List Nm}{j:Nm}{e:List Nm}(J:zY c t l)(I:l.map (bY c)=(j::e).map aA)(v:e.length<=3)(q:Q (cV<|Fy d (j::e)) u):WC (n+8) 2302 [.a9 28,cW l] u Q:=by
 have p:∀{k},k<=4->3^k<=81:=λh=>aU0 (n:=3) (gM 2) h;refine wc ii rfl<|cH.of rfl<|eE nm (λa=>[cV (eY c d a)]) (λa M K q=>bG U rfl<|YC X U f N (J a M)<|q _) ?_;rw[jj f I];refine wG.of (fR<|gZ v) (dS.of rfl (cH.of rfl (gR 4 (λb (m:Nat) o=>[aA (.a9 28),aA<|cW l,aA<|.a7 ((j::e).map λr=>cV<|d r),aA<|.a5 m,o 0,o 1]) (λb b=>u) (λi m=>m<=3^i) 1 rfl rfl (bT _)
  (λi r m o P s z A=> ?_) λm o z=> ?_)))
 have s:=p<|aR (dR (iU.mp s).1)<|gZ v;exact wP.of (aN (λk:Nat=>aA<|V.a5 k)<|bP bR)<|wP.of (NJ (aR z s) (f.f7 r) rfl rfl)<|A _ _ _ trivial rfl rfl<|LE z<|f.f7 r;refine cI (Sd<|aR z<|aR (p<|gZ v)<|bV rfl) (wP.of rfl (wP.of rfl (cH.of rfl (gR (l:=e) (g:=λr=>cV<|d r) 4 (λi b o=>[aA (.a9 28),aA<|cW l,aA<|.a7 ((j::e).map λr=>cV<|d r),aA<|.a5 m,o 0,aA<|cV<|CO d (d j)<|e.take i]) (λb b=>u) (λb b=>True) () rfl rfl trivial
  (λi r b o P s b A=> ?_) λb o b=>by rw[oO];exact q))))
 refine aFL (aR (LE (Ni f<|pD v)<|f.f7 r)<|bV rfl) (λx H y C=> ?_) (A () _ _ trivial ?_ rfl trivial);rw[Nn f.b9 (Gu.mp H),(f.b9 r).f7 y C];exact aR (gZ<|gZ<|pD v)<|bV rfl;rw[tP,s,show CO d (d j) (e.take i++(aA r).toList)=kR (CO d (d j)<|e.take i) (d r)from List.foldl_append ..];rfl
def NS(c:aG)(l:List Nm):List Nm:=l.filterMap<|bY c
theorem GO{l r:List Nm}(h:l.map (bY c)=r.map aA):NS c l=r:=by have:=aN (List.filterMap id) h;rwa[Lg,Lg,show(id∘aA:Nm->Option Nm)=aA from rfl,List.filterMap_some]at this
def zR(c:aG)(d:Nm->List Tp)(a:List (List Nm)):List Tp:=a.flatMap λl=>Fy d<|NS c l
theorem FK{j:Nat}{a:List (List Nm)}(g:eU c t (j+1) a){l:List Nm}(i:l∈a):∃f b,l.map (bY c)=(f::b).map aA/\b.length=j:=by
 obtain⟨r,h⟩:=OZ g i;have e:=aN EH h;rw[bP,(g l i).1,bP]at e;induction r using bM with
 |nil=>exact tY e
 |cons f b=>exact⟨f,b,h,(nP e).symm⟩
theorem SZ{j:Nat}{a:List (List Nm)}{T:List Nm->Prop}(s:eU c t (j+1) a)(o:Ef c a T){x:Tp}:x∈zR c d a↔∃r,T r/\vI d r x:=by refine jZ.trans ⟨λh=>h.elim λl i=>i.elim λb k=> ?_,λf=>f.elim λr g=>g.elim λm k=> ?_⟩;obtain⟨q,p,m,_⟩:=FK s b;rw[GO m]at k;exact⟨q::p,(o _).mpr ⟨l,b,m⟩,Gu.mp k⟩;obtain⟨l,b,e⟩:=(o r).mp m;obtain⟨q,p,n,_⟩:=FK s b;have v:=Me<|e.symm.trans n;subst v;exact⟨l,b,by rw[GO e];exact Gu.mpr k⟩
theorem Ww(k:dV L d){j:Nat}{a:List (List Nm)}(f:eU c t (j+1) a){x:Tp}(h:x∈zR c d a):x≠[]:=λe=>by obtain⟨l,i,b⟩:=jZ.mp h;obtain⟨n,m,g,_⟩:=FK f i;rw[GO g]at b;have:=Nn k.b9<|Gu.mp b;rw[e]at this;exact vU this
theorem aOT(i:dV L d){j:Nat}(h:j<=3){a:List (List Nm)}(b:eU c t (j+1) a):(zR c d a).length<=a.length*81:=tE λl g=>by obtain⟨m,k,f,e⟩:=FK b g;rw[GO f];exact Ni i<|e▸h
theorem aEY{e:_root_.Fin 4}(C:u[28]? =aA (.g9 23 (uF L d)))(y:dV L d)(Z:∀a∈aY c t,∀r,bY c a=aA r->r∈L){P:aH->Prop}{j:Nat}(A:j<=3){f:List (List Nm)}(m:eU c t (j+1) f)(v:f.length<=100)
  (H:u[10]? =aA (.g9 33 kG))
  (hP:∀b,P b->bC c t w F b/\b[28]? =aA (.g9 23 (uF L d)))
  (Y:∀{Q':V->aH->Prop},(∀b,P b->Q' (knd (j+1) f) b)->WC (n+8) 3105 [.a9 10,nm s,.d9 (dT e)] u Q')
  (q:∀b,P b->Q (.a8 [.a5 (j+1:Nat),cV<|gF<|zR c d f]) b):WC (n+9) 2303 [.a9 28,nm s,.d9 (dT e)] u Q:=by
 refine wc aHM rfl (cL C rfl<|bG H rfl<|Y λb p=> ?_);obtain⟨X,W⟩:=hP b p;refine dS.of rfl (wP.of rfl (cH.of rfl (gR 5 (λi g o=>[aA (.a9 28),aA<|nm s,aA<|.d9 (dT e),aA<|knd (j+1) f,aA<|cV<|gF<|zR c d<|f.take i,o 0]) (λg g=>b) (λg g=>True) () (by show _=[_,_,_,_,aA<|cV<|gF [],_];rw[←XD];rfl) rfl trivial
  (λi l g o K' J g N=> ?_) λg o g=> ?_)))
 ·have k:=fT J;obtain⟨M,K,I,e⟩:=FK m k;have z:∀x,x∈Fy d (M::K)↔x∈Fy d (NS c l):=λx=>by rw[GO I]
  refine bG W rfl (oo X W y Z (eU.cv m l k).2 I (e▸A)<|Ze (λx z=>Ww y (λl k=>m l<|QU k)<|oA.mp z) (λx h=>Ww y m<|jZ.mpr ⟨l,k,(z x).mp h⟩) ?_<|N () _ _ trivial ?_ rfl trivial);exact aR (iR (aR (Ew _)<|aR (aOT y A λl k=>m l<|QU k)<|BQ 81<|pD v)<|Ni y<|e▸A)<|bV rfl;unfold zR;rw[Si J z];rfl
 ·rw[oO];exact wP.of rfl<|q _ p
end
theorem Pg(a b:aX):cN (.d9 a) (.d9 b)=aQ (a=b):=by show(a==b)=_;exact Dp.mpr<|beq_iff_eq.trans decide_eq_true_iff.symm
theorem Bp{k:V}{d:List (V×V)}:(∀p∈d,cN p.1 k=aI)->dF k d=aC:=by
 induction d with
 |nil=>exactλc=>rfl
 |cons p r a=>exactλh=>(bH λe=>iZ<|(h p<|.head _).symm.trans e).trans<|a λq b=>h q<|.tail _ b
theorem xG{k v:V}{d:List (V×V)}:(∀p∈d,cN p.1 k=aI)->gV k v d=d++[(k,v)]:=by
 induction d with
 |nil=>exactλc=>rfl
 |cons p r a=>exactλh=>(IC λe=>iZ<|(h p<|.head _).symm.trans e).trans (aN (p::·)<|a λq b=>h q<|.tail _ b)
section
variable{f:aH}{m p k c a:Nat}{ext:aH}{o:O}{v x:V}{R:PR}{I:List V}{L:Lc}{H:List (Nat×V)}
theorem eQ(a:f.length=m)(k:Nat)(h:ext[k]? =aA o):(f++ext)[m+k]? =aA o:=by subst a;rw[uR (dI ..),wY];exact h
theorem wE(a:f.length=m)(k:Nat)(o:O):(f++ext).set (m+k) o=f++ext.set k o:=by subst a;rw[QQ _ _ (dI ..),wY]
theorem oR{C:cR}{d:Co}{K:PF}(a:f.length=m)(h:Pb v=aA o)(q:aS C d K (.a9 (m+ext.length)::I) L (f++(ext++[o]))):aS C (.j6 d) K (v::I) L (f++ext):=by
 show(match Pb v with|some o=>aS C d K (.a9 (f++ext).length::I) L (f++ext++[o])|none=>False)
 rw[h,cM,a];show aS C d K _ L (f++ext++[o]);rw[dK];exact q
theorem NU{C:cR}{d:Co}{K:PF}(a:f.length=m)(q:aS C d K (.a9 (m+ext.length)::I) L (f++(ext++[.a7 []]))):aS C (.a7 0 (.j6 d)) K I L (f++ext):=oR (v:= .a7 []) a rfl q
theorem lO(b:f.length=m)(k:Nat)(h:ext[k]? =aA (.g9 c H))(e:(rP c a&&mX H.length 100)=aB)(q:R I L (f++ext.set k (.g9 c (xH a x H)))):wS (GZ a (.a9 (m+k)) x<|f++ext) R I L:=
 DT (eQ b k h) e (wE b k _) q
end
section
variable{n:Nat}{Q:V->aH->Prop}{f:aH}
theorem Ss{a b:Nat}(h:a<b):dZ .Lt (.a5 a) (.a5 b) f=aA aB:=aN aA<|cU<|tK.mpr h
theorem XT{a b:Nat}(h:b<=a):dZ .Lt (.a5 a) (.a5 b) f=aA aI:=aN aA<|fM<|EK.mpr<|Do.mpr h
theorem wz(a:Nat):dZ .GtE (.a5 a) (.a5 0) f=aA aB:=aN aA<|cU<|uT a
theorem qz{a b:Nat}:dZ .NotEq (.a5 a) (.a5 b) f=aA (!aQ (a=b)):=aN (λb=>aA<|!b) (JY a b)
theorem JQ(l:List V)(j:Nat):idxV l (j:Nat)=l[j]? :=bO<|uT j
theorem Jz{l:List V}{i:Int}{j:Nat}{v:V}(a:i=(j:Nat))(h:l[j]? =aA v):rQ (.a8 l) (.a5 i) f=aA v:=(a▸JQ l j:idxV l i=_).trans h
theorem BH{a b:Nat}(h:a<=1000000)(g:b<=1000000):Ej a b=aB:=
 have z:∀k:Nat,aQ ((-1000000:Int)<=k)=aB:=λk=>cU (Qs (by decide) (uT k))
 pV (pV (pV (z a)<|cU<|Do.mpr h)<|z b) (cU<|Do.mpr g)
noncomputable def gH(l:List aX):List (V×V):=l.zipIdx.map λp=>(.d9 p.1,.a5 (p.2:Nat))
theorem Wo(l:List aX)(x:aX):gH (l++[x])=gH l++[(.d9 x,.a5 (l.length:Nat))]:=by unfold gH;rw[aU1,gO,jH];rfl
theorem Gk(l:List aX):(gH l).length=l.length:=(bP _).trans fh
theorem Bt(l:List aX):(gH l).all (λp=>iC p.1)=aB:=by unfold gH;rw[qZ];exact cX.mpr λa a=>rfl
theorem Ip{l:List aX}{x:aX}(h:x∉l):∀p∈gH l,cN p.1 (.d9 x)=aI:=λp b=>by obtain⟨q,a,e⟩:=gJ.mp b;rw[←e];exact(Pg ..).trans<|fM λe=>h<|e▸List.fst_mem_of_mem_zipIdx a
theorem xL{a:Type}{l:List a}(b:l.Nodup){i:Nat}{y:a}(c:l[i]? =aA y):y∉l.take i:=λh=>by have d:=EG i l▸b;refine(DC.mp d).2.2 y h y ?_ rfl;rw[wT];exact⟨0,by rw[QD];exact c⟩
theorem Ha{x:aX}{d:List (V×V)}(a:d.all (λp=>iC p.1)=aB):uZ (.d9 x) (.b7 d)=aA (dF (.d9 x) d).isSome:=uN<|jT a
theorem aC6{m:Nat}(b:f.length=m){l:List aX}(j:l.Nodup)(k:l.length<=1000)(q:Q .h9 (f++[.g9 15 [(64092861171,.a8 (l.map .d9)),(1050784625686899,.a9 (m+1))],.b7 (gH l)])):WC (n+1) 1500 [.a9 (m+0),.a7 (l.map .d9)] (f++[.g9 15 []]) Q:=by
 refine wc aCQ rfl (wP.of rfl (lO b 0 rfl rfl (wP.of rfl (oR b rfl (lO b 0 rfl rfl (cL (eQ b 0 rfl) rfl (cH.of rfl (gR 2 (λa a o=>[aA (.a9 (m+0)),aA<|.a7 (l.map .d9),o 0]) (λi a=>f++[.g9 15 [(64092861171,.a8 (l.map .d9)),(1050784625686899,.a9 (m+1))],.b7 (gH<|l.take i)]) (λa a=>True) () rfl rfl trivial
  (λi y a o p h a d=> ?_) λa o a=>by rw[oO];exact q))))))))
 have c:=Ip<|xL j h;have g:=eQ (ext:=[.g9 15 [(64092861171,.a8 (l.map .d9)),(1050784625686899,.a9 (m+1))],.b7 (gH<|l.take i)]) b 0 rfl;have e:=eQ (ext:=[.g9 15 [(64092861171,.a8 (l.map .d9)),(1050784625686899,.a9 (m+1))],.b7 (gH<|l.take i)]) b 1 rfl;refine cL g rfl<|cI (jG rfl (iJ e)<|(Ha<|Bt _).trans<|aN (λo=>aA o.isSome)<|Bp c)<|cL g rfl<|pU (iJ e) (mJ<|Bt _)<|cL g rfl<|tX e (pV (jT<|Bt _)<|qR<|Gk _▸pD k) (wE b 1 _)<|d () _ _ trivial rfl ?_ trivial;rw[tP,h,show gH (l.take i++(aA y).toList)=_ from Wo ..,xG c,Gk];rfl
theorem ju{p d:Nat}{l:List V}(h:f[p]? =aA (.g9 15 [(64092861171,.a8 l),(1050784625686899,.a9 d)]))(q:Q (.a5 l.length) f):WC (n+1) 1501 [.a9 p] f Q:=wc aB3 rfl<|cL h rfl<|wP.of rfl q
noncomputable def bF:List (Nat×V):=[(138410163366050277,.a9 23),(7795344388723,.a9 26),(1050784625686899,.a9 27)]
structure gD(N:Nat)(bl:List V)(nl:List (V×V))(f:aH):Prop where
 u:∃l d,f[23]? =aA (.g9 15 [(64092861171,.a8 l),(1050784625686899,.a9 d)])/\l.length=N
 o:f[25]? =aA (.g9 16 bF)
 b:f[26]? =aA (.a7 bl)
 n:f[27]? =aA (.b7 nl)
theorem aKH{m:Nat}(a:f.length=m){u:V}(q:Q .h9 (f++[.g9 16 [(138410163366050277,u),(7795344388723,.a9 (m+1)),(1050784625686899,.a9 (m+2))],.a7 [],.b7 []])):WC (n+1) 1600 [.a9 (m+0),u] (f++[.g9 16 []]) Q:=
 wc aLC rfl (lO a 0 rfl rfl<|NU a<|lO a 0 rfl rfl<|wP.of rfl<|oR a rfl<|lO a 0 rfl rfl q)
theorem Zd{N:Nat}{L:List V}{F:List (V×V)}(X:gD N L F f){x:V}{k:Nat}{A:List Tp}(y:dM k A)(K:∀r∈A,∀a∈r,a<N)(J:A.length<=10000)(q:Q .h9 f):WC (n+2) 1602 [.a9 25,x,.a5 (k:Nat),cV A] f Q:=by
 obtain⟨M,P,t,s⟩:=X.u;refine wc aES rfl<|wP.of rfl<|wB.of rfl (λc=>cH.of rfl<|gR 4 (λc c o=>[aA (.a9 25),aA x,aA<|.a5 k,aA<|cV A,o 0,o 1,o 2]) (λc c=>f) (λc c=>True) () rfl rfl trivial (λc r c o C d c e=> ?_) λc o c=> ?_) λh=>AP h;have u:=fT d;refine wP.of rfl<|mI<|wP.of (aN (λk:Nat=>aA<|V.a5 k)<|(bP _).trans<|y.f7 r u)<|cI (qz.trans<|aN (λb=>aA<|!b) (cU rfl)) (fQ<|cH.of rfl<|gR 5 (λc c p=>[aA (.a9 25),aA x,aA<|.a5 k,aA<|cV A,aA<|bR r,p 0,o 2]) (λc c=>f) (λc c=>True) () rfl rfl trivial (λc a c o C d c e=> ?_) λc o c=>e () _ _ trivial rfl rfl trivial);refine wP.of rfl (mI (wP.of rfl (fQ (.of (b:=aB) (aN aA<|cU<|uT a) (λc=>cL X.o rfl<|bG t rfl<|ju t<|qL (Ss<|s▸K r u a (fT d))<|mI<|fQ<|e () _ _ trivial rfl rfl trivial) λh=>(by contradiction)))))
 refine wP.of rfl (wG.of (BH (a:=1) (bV rfl)<|aR (bW<|bP _)<|aR J<|bV rfl)<|gR (g:=λi:Nat=> .a5 (1+(i:Int))) (l:=eW _) 6 (λc c p=>[aA (.a9 25),aA x,aA<|.a5 k,aA<|cV A,o 0,o 1,p 0]) (λc c=>f) (λc c=>True) () rfl rfl trivial (λc i c o C d c e=> ?_) λc o c=>q);have z:=qD.mp<|fT d;rw[bP]at z;have d:i+1<A.length:=aRK<|uX z<|aQE A.length 1;have m:=oN d;refine wP.of rfl (wP.of (Jz (j:=i) (v:=bR A[i]) ((aN (· -1)<|Qt 1 i).trans<|ew ..) (by rw[jW,iA m];rfl)) (wP.of (Jz (j:=i+1) (v:=bR A[i+1]) (Qt 1 i) (by rw[jW,iA d];rfl)) ?_))
 exact gL ((UM ..).trans<|aN aA<|cU<|Dj.mp y.r8 i (i+1) m d<|jY i) (e () _ _ trivial rfl rfl trivial)
theorem Oe{N:Nat}{c:List V}{e:List (V×V)}(X:gD N c e f){x:aX}{k:Nat}(L:0<k){A B:List Tp}(Y:dM k A)(P:dM k B)(y:∀r∈A,∀a∈r,a<N)(u:∀r∈B,∀a∈r,a<N)(t:A.length<=10000)(s:B.length<=10000)(z:∀r∈A,r∈B)
  (C:∀p∈e,cN p.1 (.d9 x)=aI) (F:e.all (λp=>iC p.1)=aB) (K:e.length<=1000) (M:c.length<=1000)
  (q:∀h,h=(f.set 27<|.b7 (e++[(.d9 x,.a5 c.length)])).set 26 (.a7 (c++[.a8 [.d9 x,.a5 (k:Nat),cV A,cV B]]))->gD N (c++[.a8 [.d9 x,.a5 (k:Nat),cV A,cV B]]) (e++[(.d9 x,.a5 c.length)]) h->Q (.a5 c.length) h):WC (n+3) 1601 [.a9 25,.d9 x,.a5 (k:Nat),cV A,cV B] f Q:=by
 refine wc aOW rfl (cL X.o rfl<|cI (jG rfl (iJ X.n)<|(Ha F).trans<|aN (λo=>aA o.isSome)<|Bp C) ?_);refine wP.of rfl<|mI<|wP.of rfl<|fQ<|cI (XT (b:=1) L)<|fQ<|bG X.o rfl<|Zd X Y y t<|bG X.o rfl<|Zd X P u s<|aGY (aR t<|bV rfl) (aR s<|bV rfl) z<|mI ?_;refine cL X.o rfl<|pU (kO X.b) rfl<|cL X.o rfl<|tX X.n (pV (jT F)<|qR K) (aN (λd=>f.set 27<|.b7 d)<|xG C) ?_;have j:(f.set 27<|.b7 (e++[(.d9 x,.a5 c.length)]))[26]? =aA (.a7 c):=fN X.b<|iD rfl;have J:=fN (b:= .b7 (e++[(.d9 x,.a5 c.length)])) (q:=27) X.o<|iD rfl;refine cL J rfl<|lR j rfl<|oQ j (qR M) rfl ?_;have g:=yL (a:= .a7 (c++[.a8 [.d9 x,.a5 (k:Nat),cV A,cV B]])) j;have m:=fN (b:= .a7 (c++[.a8 [.d9 x,.a5 (k:Nat),cV A,cV B]])) (q:=26) J<|iD rfl;refine cL m rfl<|pU (kO g) rfl<|wP.of (v:= .a5 c.length) (aN (λi=>aA<|V.a5 i) ?_)<|q _ rfl ⟨?_,m,g,fN (yL X.n)<|iD rfl⟩
 ·rw[cM];exact ew c.length 1
 ·obtain⟨l,d,h1,Z⟩:=X.u;exact⟨l,d,fN (fN h1<|iD rfl)<|iD rfl,Z⟩
theorem jk{a:List V}{v:V}{i:Nat}(b:f[25]? =aA (.g9 16 bF))(h:f[26]? =aA (.a7 a))(c:a[i]? =aA v)(q:Q v f):WC (n+1) 1604 [.a9 25,.a5 (i:Nat)] f Q:=
 wc aO0 rfl (cL b rfl<|Bn (kO h) ((JQ a i).trans c) q)
theorem aJT{a:List V}(b:f[25]? =aA (.g9 16 bF))(h:f[26]? =aA (.a7 a))(q:Q (.a5 a.length) f):WC (n+1) 1605 [.a9 25] f Q:=
 wc aLF rfl (cL b rfl<|pU (kO h) rfl q)
end
structure bD where
 ex:Bool
 w5:Nat
 g8:Nm
def Ag(x:bD):V:= .a8 [.e8 x.ex,.a5 (x.w5:Nat),nm x.g8]
def lF(l:List bD):List (V×V):=l.map λx=>(nm x.g8,.a8 [.e8 x.ex,.a5 (x.w5:Nat)])
def sZ(d:Nat)(l:List bD):V:= .a8 [.a5 (d:Nat),.a8 (l.map Ag)]
noncomputable def nF(d:Nat):List (Nat×V):=[(2248903923324291953395,.a9 3),(1006252523878004,.a5 (d:Nat)),(513537636,.a9 20),(1055077183566564,.a9 21)]
structure mA(c:aG)(t:Bool)(l:List bD):Prop where
 nd:(l.map (·.g8)).Nodup
 ok:∀x∈l,x.g8∈aY c t/\(bY c x.g8).isSome=aB/\x.w5<=2
 f7:l.length<=10
structure gT(d:Nat)(l:List bD)(f:aH):Prop where
 o:f[19]? =aA (.g9 22 (nF d))
 t:f[20]? =aA (.b7 (lF l))
 r:f[21]? =aA (.b7 [(nm E,.e8 aB)])
theorem FP(l:List bD):(lF l).all (λp=>iC p.1)=aB:=by unfold lF;rw[qZ];exact cX.mpr λa a=>rfl
noncomputable def lN(l:List bD)(a:Nm):Option bD:=l.find? λx=>aQ<|x.g8=a
theorem MB(l:List bD)(a:Nm):dF (nm a) (lF l)=(lN l a).map λx=> .a8 [.e8 x.ex,.a5 (x.w5:Nat)]:=by
 induction l with
 |nil=>rfl
 |cons x l b=>show(if cN (nm x.g8) (nm a)then aA (V.a8 [.e8 x.ex,.a5 (x.w5:Nat)])else dF (nm a) (lF l))=hV _ (List.find? _ (x::l));rw[rS,b,aQC];cases aQ (x.g8=a)<;>rfl
def EB(l:List bD)(a:Nm):Bool:=(lN l a).isSome
theorem PA(l:List bD)(a:Nm):uZ (nm a) (.b7 (lF l))=aA (EB l a):=(Ha<|FP l).trans<|aN aA<|(aN Qg<|MB l a).trans Option.isSome_map
theorem aJC(a:Nm):tV (nm a) [vS "int",vS "Int"]=aA aI:=bQ (nS (p:=λa=>aQ<|tV (nm a) [vS "int",vS "Int"]=aA aI) (by decide+kernel) a)
theorem Zn(a:Nm):CJ a=aQ (a=E):=bQ (nS (p:=λa=>aQ<|CJ a=aQ (a=E)) (by decide+kernel) a)
theorem aEX(c:aG){b:Nm}(h:c.k9 b=aA E):c.t7 b=vS "one":=by obtain⟨_,_,a,_,_,_⟩:=c;cases b<;>first|rfl|(cases a<;>cases h)
section
variable{n:Nat}{Q:V->aH->Prop}{f:aH}{c:aG}{t:Bool}{H:List aP}{F:List (Nat×V)}{a b s:Nm}{d:Nat}{w:List bD}
theorem Yo(a:lZ 8242255868644 F=aA (.a9 6))(b:f[6]? =aA (.a7 [.a8 [vS "o",nm E]]))(c:f[3]? =aA (.g9 36 F))(q:Q (.a7 [.a8 [vS "o",nm E]]) f):WC (n+1) 3622 [.a9 3] f Q:=
 wc aHN rfl (cL c a<|pU (kO b) rfl q)
structure SA(c:aG)(t:Bool)(H:List aP)(F:List (Nat×V))(f:aH):Prop where
 X:bC c t H F f
 ko:lZ 1055077183566564 F=aA (.a7 ((bE c t).map nm))
 kw:lZ 2213023116341192372851 F=aA (.a7 ((bX c t H).map nW))
 kp:lZ 8242255868644 F=aA (.a9 6)
 k6:f[6]? =aA (.a7 [.a8 [vS "o",nm E]])
theorem SA.j7(x:SA c t H F f)(ext:aH):SA c t H F (f++ext):=⟨x.X.j7 _,x.ko,x.kw,x.kp,dN x.k6⟩
theorem MK(k:SA c t H F f)(q:Q (.a7 ((bE c t).map nm)) f):WC (n+1) 3608 [.a9 3] f Q:=wc Xp rfl<|cL k.X.o k.ko<|wP.of rfl q
theorem aIK(k:SA c t H F f)(q:Q (.a7 ((bX c t H).map nW)) f):WC (n+1) 3620 [.a9 3] f Q:=wc XR rfl<|cL k.X.o k.kw<|wP.of rfl q
theorem xg(k:SA c t H F f)(v:∀a∈aY c t,a∈bE c t){m:List (Nat×V)}(g:f[19]? =aA (.g9 22 m))(i:lZ 2248903923324291953395 m=aA (.a9 3))(h:lZ 513537636 m=aA (.a9 20))(l:f[20]? =aA (.b7 (lF w))){x:bD}(r:x.g8∈aY c t)(s:(bY c x.g8).isSome=aB)(z:∀y∈w,y.g8≠x.g8)(A:w.length<=10)(q:Q .h9 (f.set 20<|.b7 (lF<|w++[x]))):WC (n+4) 2201 [.a9 19,.e8 x.ex,.a5 (x.w5:Nat),nm x.g8] f Q:=by
 refine wc qv rfl (cI (aJC x.g8) (cL g i (bG k.X.o rfl (MK k (cI ((aN (hV oK) Cn).trans<|aN (λb=>aA<|!b) (cU<|v _ r)) (cL g i (bG k.X.o rfl (Cz k.X r (cI ((tS (bY c x.g8) aC).trans (aN aA (fM λe=>by rw[e]at s;exact iZ s))) ?_)))))))))
 have j:∀p∈lF w,cN p.1 (nm x.g8)=aI:=nA.mpr λy u=>(rS _ _).trans<|fM<|z y u;refine cL g h<|cI (jG rfl (iJ l)<|(Ha<|FP _).trans<|aN (λo=>aA o.isSome)<|Bp j)<|cI (XT (b:=0)<|eO _)<|cL g h<|tX l (pV (jT<|FP _)<|cU<|fZ (aR (bW<|bP _) A)<|bV rfl) (aN (λd=>f.set 20<|.b7 d)<|xG j) ?_;rw[show lF (w++[x])=lF w++[(nm x.g8,V.a8 [.e8 x.ex,.a5 (x.w5:Nat)])]from gO ..]at q;exact q
noncomputable def yM(c:aG)(d:Nat)(a:Nm):Nat:=if a=E then(if c.nE then 3 else 2)else d
noncomputable def JT(c:aG)(t:Bool):Prop:=Bb c t E=[E0,E1]++(if c.nE then [E2]else [])\/Bb c t E=(([E0,E1]++(if c.nE then [E2]else [])):List Nm).reverse
theorem uq(k:SA c t H F f)(g:f[19]? =aA (.g9 22 (nF d)))(p:a∈aY c t)(i:JT c t)(q:Q (.a5 (yM c d a:Nat)) f):WC (n+3) 2202 [.a9 19,nm a] f Q:=by
 refine wc aDG rfl (cL g rfl<|bG k.X.o rfl<|aLZ k.X<|cL g rfl<|bG k.X.o rfl<|aLP k.X p<|vK (λe=> ?_) λe=>fQ<|cL g rfl ?_);have e:=bQ<|Zn a▸e;subst e;have l:(Bb c t E).length=(if c.nE then 3 else 2):=i.elim (λh=>by rw[h];cases c.nE<;>rfl) λh=>by rw[h];cases c.nE<;>rfl
 have m:(Bb c t E).length=EI ((Bb c t E).length-1):=by rw[l];cases c.nE<;>rfl
 refine wP.of (aN (λk:Nat=>aA<|V.a5 k)<|(bP _).trans m) (gL (aN aA<|cU<|aU2 _)<|mI<|cH.of rfl<|eE nm (λj=>[]) (λb o K q=> ?_) ?_);obtain⟨s,r⟩:=jA.mp o;refine cL g rfl<|bG k.X.o rfl<|Wf k.X s<|cI ?_<|q _;rw[aEX c (bQ r)];exact CQ _;rw[List.flatMap_eq_nil_iff.mpr λj j=>rfl];exact wG.of rfl<|gL rfl<|wP.of (aN (λk:Nat=>aA<|V.a5 k)<|(bP _).trans l) q;unfold yM at q;rw[bH (pM<|Zn a▸e)]at q;exact q
def zU(c:aG)(d:Nat)(l:List bD)(a:Nm):Bool×Nat:=match lN l a with|some x=>(x.ex,x.w5)|none=>(aI,yM c d a)
def vB(c:aG)(d:Nat)(l:List bD)(a:Nm):Bool×Nat:=
 if a=T/\c.mT=3 then(aB,1)else if a=T/\c.mT=2 then((zU c d l a).1,tI (zU c d l a).2 1)else((zU c d l a).1||decide (a=E),(zU c d l a).2)
noncomputable def AU(c:aG)(l:List bD):Prop:=EB l T=aB->c.mT=0\/c.mT=1
theorem YB(d:a=T\/a=U\/a=E):dZ .Eq (c.t7 a) (vS "one") f=aA (aQ<|a=T/\c.mT=3)/\dZ .Eq (c.t7 a) (vS "lone") f=aA (aQ<|a=T/\c.mT=2):=by
 obtain⟨b,_,_,_,_,_⟩:=c;rcases d with e|e|e<;>subst e
 match b with
 |0=>exact⟨by rfl',by rfl'⟩
 |1=>exact⟨by rfl',by rfl'⟩
 |2=>exact⟨by rfl',by rfl'⟩
 |3=>exact⟨by rfl',by rfl'⟩
 exact⟨by rfl',by rfl'⟩
 exact⟨by rfl',by rfl'⟩
theorem TN(a:Nm):uZ (nm a) (.b7 [(nm E,V.e8 aB)])=aA (aQ<|a=E):=bQ (nS (p:=λa=>aQ<|uZ (nm a) (.b7 [(nm E,V.e8 aB)])=aA (aQ<|a=E)) (by decide+kernel) a)
theorem XF(x:Nat):Pd (.a5 x) (.a5 1)=aA (.a5 ((tI x 1:Nat):Int)):=aN (λi=>aA<|V.a5 i)<|(Dk 1 x).elim (λh=>(bO<|tK.mpr h).trans<|aN cw (aRL<|dR h).symm) λh=>(bH λa=>eI.mpr h<|tK.mp a).trans<|aN cw (fj h).symm
theorem zt{C:cR}{R:PR}{I:List V}{L:Lc}{p:Nat}{x v:V}{l:List (V×V)}(h:f[p]? =aA (.b7 l))(e:dY x l=aB)(q:R ((dF x l).getD v::I) L f):wU (yP 4 (.a9 p) [x,v] f) R I L:=
 .of (v:=(dF x l).getD v) (σ:=f) (by show(match eK (.a9 p) f with|some (.b7 l)=>Ir l [x,v] f|_=>aC)=_;rw[iJ h];show(match dY x l with|true=>aA ((dF x l).getD v,f)|false=>aC)=_;rw[e]) q
theorem aHX(k:SA c t H F f)(N:gT d w f)(m:a∈aY c t)(v:a=T\/a=U\/a=E)(j:JT c t)(u:AU c w)(q:Q (.a8 [.e8 (vB c d w a).1,.a5 ((vB c d w a).2:Nat)]) f):WC (n+4) 2203 [.a9 19,nm a] f Q:=by
 have i:dY (nm a) (lF w)=aB:=jT<|FP _;have b:a=T/\(c.mT=3\/c.mT=2)->EB w a=aI:=λl=>l.elim λx g=>by
  cases s:EB w a with
  |false=>rfl
  |true=>subst x;rcases u s with e|e<;>rw[e]at g<;>rcases g with g|g<;>cases g
 obtain⟨r,o⟩:=YB (f:=f) (c:=c) v;have e:(dF (nm a)<|lF w).getD (V.a8 [V.e8 aI,V.a5 (yM c d a:Nat)])=V.a8 [.e8 (zU c d w a).1,.a5 ((zU c d w a).2:Nat)]:=by unfold zU;rw[MB];cases lN w a<;>rfl
 unfold vB at q;refine wc aIT rfl<|cL N.o rfl<|aG2 N.t rfl<|bG N.o rfl<|uq k N.o m j<|zt (C:=WC<|n+3) N.t i ?_;rw[e];generalize zU c d w a=p at*;refine dS.of rfl<|cL N.o rfl<|bG k.X.o rfl<|Wf k.X m<|dL r (λh=> ?_) λh=>dL o (λg=> ?_) λg=> ?_;have h:=bQ h;rw[bO h]at q;exact cL N.o rfl<|cI (jG rfl (iJ N.t)<|(PA ..).trans<|aN aA<|b ⟨h.1,.inl h.2⟩)<|fQ q;have h:=pM h;have g:=bQ g;rw[bH h,bO g]at q;refine cL N.o rfl<|cI (jG rfl (iJ N.t)<|(PA ..).trans<|aN aA<|b ⟨g.1,.inr g.2⟩)<|fQ<|wP.of (XF _)<|vK (λe=> ?_) λe=> ?_;exact e▸q;rw[e]at q;exact cL N.o rfl (qL (jG rfl (iJ N.r) ((TN a).trans (aN aA (fM λe=>by have:=e.symm.trans g.1;injection this)))) q)
 rw[bH (pM h),bH<|pM g]at q;refine vK (λe=> ?_) λe=> ?_;rw[e]at q⊢;exact q;rw[e]at q;exact cL N.o rfl<|qL (jG rfl (iJ N.r)<|TN a) q
def Bq(x:bD)(r:Nat):V:= .a8 [vS (if x.ex then "eq"else "le"),.a8 [vS "count",.a8 [vS "rel",.a5 (r:Nat)]],.a8 [vS "num",.a5 (x.w5:Nat)]]
def DZ(c:aG)(l:List bD)(a:Nm)(r:Nat):V:=match lN l a with
  |some x=>if bY c a=aA a then .h9 else Bq x r
  |none=> .h9
theorem aEP(k:SA c t H F f)(N:gT d w f)(i:a∈aY c t){r:Nat}(q:Q (DZ c w a r) f):WC (n+4) 2204 [.a9 19,nm a,.a5 (r:Nat)] f Q:=by
 have b:=(PA w a);have g:=MB w a;unfold EB at b;unfold DZ at q;refine wc aH4 rfl<|cL N.o rfl ?_;cases h:lN w a with
 |none=>rw[h]at q b;exact gL (jG rfl (iJ N.t)<|aN (hV oK) b)<|mI q
 |some x=>
  rw[h]at q b g;refine cI (jG rfl (iJ N.t)<|aN (hV oK) b)<|cL N.o rfl<|bG k.X.o rfl<|Cz k.X i<|dL (tS (bY c a)<|aA a) (λe=>mI ?_) λe=>fQ ?_;dsimp only at q;rw[bO (bQ e)]at q;exact q;dsimp only at q;rw[bH (pM e)]at q;unfold Bq at q;refine cL N.o rfl (Bn (iJ N.t) ((show qK (.b7 (lF w)) (nm a)=_ by dsimp only[qK];rw[show dY (nm a) (lF w)=aB from jT (FP _)]).trans g) (dS.of rfl<|vK (λe=> ?_) λe=> ?_))
  rw[e]at q;exact q;rw[e]at q;exact q
theorem aIN(k:SA c t H F f)(h:f.length=19)(J:∀a∈aY c t,a∈bE c t)(s:mA c t w)(K:E∈aY c t)(q:Q .h9 (f++[.g9 22 (nF d),.b7 (lF w),.b7 [(nm E,.e8 aB)]])):WC (n+5) 2200 [.a9 19,.a9 3,sZ d w] (f++[.g9 22 []]) Q:=by
 refine wc aNV rfl (lO h 0 rfl rfl (wP.of rfl (gL (wz d) (wP.of rfl (lO h 0 rfl rfl (wP.of rfl (oR h rfl (lO h 0 rfl rfl (wP.of rfl (cH.of rfl (gR 3 (λj j o=>[aA (.a9 19),aA<|.a9 3,aA<|sZ d w,o 0,o 1,o 2,o 3]) (λi j=>f++[.g9 22 [(2248903923324291953395,.a9 3),(1006252523878004,.a5 (d:Nat)),(513537636,.a9 20)],.b7 (lF<|w.take i)]) (λj j=>True) () rfl rfl trivial
  (λi x j o L m j r=> ?_) λj o j=> ?_)))))))))))
 have p:=s.ok x<|fT m;refine dS.of rfl<|bG (eQ h 0 rfl) rfl<|xg (k.j7 _) J (eQ h 0 rfl) rfl rfl (eQ h 1 rfl) p.1 p.2.1 (λy C e=> ?_) (pD s.f7)<|r () _ _ trivial rfl ?_ trivial;exact xL s.nd (i:=i) (y:=x.g8) (by rw[jW,m];rfl) (e▸aRM▸LG C)
 rw[tP,m];exact wE h 1 _;rw[oO];refine wP.of rfl (oR h rfl (lO h 0 rfl rfl (bG (dN k.X.o) rfl (Yo k.kp (dN k.k6) (dN k.X.o) (cH.of rfl (gR (l:=[E]) (g:=λe=> .a8 [vS "o",nm e]) 5 (λj j v=>[aA (.a9 19),aA<|.a9 3,aA<|sZ d w,o 0,o 1,v 0,v 1]) (λj x=>f++[.g9 22 (nF d),.b7 (lF w),.b7 x]) (λi x=>x=if i=0 then []else [(nm E,.e8 aB)]) [] rfl rfl rfl
  (λi b x o L m u r=> ?_) λx o u=>by rw[show x=[(nm E,.e8 aB)]from u];exact q))))))
 induction i using fO with
 |succ=>exact HT m
 |zero=>
  (injection m with A;subst A);subst u
  have z:=(k.j7 [.g9 22 (nF d),.b7 (lF w),.b7 []]).X;exact dS.of rfl<|bG z.o rfl<|Cz z K<|cI rfl<|cL (eQ h 0 rfl) rfl<|tX (eQ h 2 rfl) rfl (wE h 2 _)<|r _ _ _ trivial rfl rfl rfl
end
section
variable{n:Nat}{Q:V->aH->Prop}{u:aH}{c:aG}{t:Bool}{w:List aP}{F:List (Nat×V)}{a b s:Nm}
theorem Xq{C:cR}{f p i:Nat}{d:Co}{K:PF}{a:List V}{L:Lc}{x:V}{b:List (Nat×V)}(e:lg i L=aA x)(h:lg 0 L=aA (.a9 p))(c:u[p]? =aA (.g9 33 b))(q:C f [.a9 p,x] u (nk (aS C d K) a L)):aS C (.a0 i (.i7 f 1 d)) K a L u:=by show wL (lg i L) (aS C (.i7 f 1 d) K) a L u;rw[e];show CN C f [x] (aS C d K) a L u;unfold CN;rw[h];dsimp only;rw[c];exact .of rfl q
theorem aDC{p:Nat}(a:u.length=p)(q:Q .h9 (u++[.g9 33 [(2248903923324291953395,.a9 3)]])):WC (n+1) 3000 [.a9 (p+0),.a9 3] (u++[.g9 33 []]) Q:=wc aB1 rfl<|lO a 0 rfl rfl q
theorem aNN{p:Nat}(a:u.length=p)(q:Q .h9 (u++[.g9 33 [(2248903923324291953395,.a9 3),(35643093460954271031439987,.a9 (p+1)),(34272352658209873594102387,.a9 (p+2)),(139479195766731763,.a9 (p+3))],.b7 [],.b7 [],.b7 []])):WC (n+2) 3100 [.a9 (p+0),.a9 3] (u++[.g9 33 []]) Q:=
 wc aC9 rfl (Xq rfl rfl (eQ a 0 rfl)<|aDC a<|wP.of rfl<|oR a rfl<|lO a 0 rfl rfl<|wP.of rfl<|oR a rfl<|lO a 0 rfl rfl<|wP.of rfl<|oR a rfl<|lO a 0 rfl rfl q)
theorem aJH(a:u.length=10)(q:Q .h9 (u++[.g9 33 kG,.b7 [],.b7 [],.b7 [],.b7 [],.b7 [],.b7 [],.b7 [(vS "",.a9 16)]])):WC (n+3) 3300 [.a9 10,.a9 3] (u++[.g9 33 []]) Q:=
 wc aFW rfl (Xq rfl rfl (eQ a 0 rfl)<|aNN a<|wP.of rfl<|oR a rfl<|lO a 0 rfl rfl<|wP.of rfl<|oR a rfl<|lO a 0 rfl rfl<|wP.of rfl<|oR a rfl<|wP.of rfl<|oR a rfl<|lO a 0 rfl rfl<|lO a 0 rfl rfl q)
theorem vz{p:Nat}{x y:V}(a:u.length=p)(q:Q .h9 (u++[.g9 24 [(2248903923324291953395,x),(63304348275,y)]])):WC (n+1) 2400 [.a9 (p+0),x,y] (u++[.g9 24 []]) Q:=wc aGH rfl<|lO a 0 rfl rfl<|lO a 0 rfl rfl q
theorem rn{p:Nat}{x y z:V}(a:u.length=p)(q:Q .h9 (u++[.g9 23 [(2248903923324291953395,x),(63304348275,y),(496761459,z)]])):WC (n+1) 2300 [.a9 (p+0),x,y,z] (u++[.g9 23 []]) Q:=wc aDV rfl<|lO a 0 rfl rfl<|lO a 0 rfl rfl<|lO a 0 rfl rfl q
noncomputable def lK(g:Nm->Nat)(l:List Nm):Nat:=(l.map g).sum
def mK(g:Nm->Nat)(L:List Nm)(r:Nm):Nat:=lK g<|L.takeWhile λx=> !aQ (x=r)
def tT(g:Nm->Nat)(L:List Nm)(r:Nm):List Tp:=(eW<|g r).map λk=>[mK g L r+k]
def vG(r:Nm)(k:Nat):aX:=iO r++(cD "$"++(sX (k:Nat)++yQ))
def kB(g:Nm->Nat)(L:List Nm):List aX:=L.flatMap λr=>(eW<|g r).map λk=>vG r k
theorem CH(g:Nm->Nat)(L:List Nm)(r:Nm):dM 1 (tT g L r):=
 ⟨AE.mpr<|aRN.imp λ{a b} h=>AH.mpr<|.inl (rF h _),nA.mpr λc c=>rfl⟩
theorem Cv(g:Nm->Nat)(L:List Nm)(r:Nm):(tT g L r).length=g r:=(bP _).trans pK
theorem FR(g:Nm->Nat):∀L:List Nm,(kB g L).length=lK g L
 |[]=>rfl
 |a::L=>by unfold kB lK;rw[EW,cM,bP,pK,sH,aRE];exact aN _<|FR g L
def jJ(L:List Nm)(a:Nm->List Tp):List (V×V):=L.map λr=>(nm r,cV<|a r)
theorem Un{L:List Nm}{b:Nm->List Tp}{a:Nm}(h:a∉L):∀p∈jJ L b,cN p.1 (nm a)=aI:=nA.mpr λy c=>(rS _ _).trans<|fM λe=>h<|e▸c
theorem Iw(L:List Nm)(a:Nm->List Tp):(jJ L a).all (λp=>iC p.1)=aB:=Bg (λb=>rfl) L
theorem aNY(r:Nm):∀k:Nat,k<3->((Be [.d9 (iO r),.d9 (cD "$"),.d9 (sX (k:Nat))]).bind λt=>gI (aQ<|t.length<=cF)<|.d9 t)=aA (.d9 (vG r k))
 |0,_=>by cases r<;>rfl'
 |1,_=>by cases r<;>rfl'
 |2,_=>by cases r<;>rfl'
 |_+3,h=>aZ h<|eI.mpr<|wZ ..
theorem UQ{l m:List Nm}{r:Nm}(h:r∉l):((l++r::m).takeWhile λx=> !aQ (x=r))=l:=by
 induction l with
 |nil=>show List.takeWhile _ (r::m)=[];rw[QV,cU rfl];rfl
 |cons a l b=>rw[List.cons_append,QV,fM λe:a=r=>h<|e▸ .head _,b λe=>h<|.tail _ e];rfl
def gN(c:aG)(d:Nat)(l:List bD)(r:Nm):Nat:=(vB c d l r).2
def wO(c:aG)(t:Bool)(i:Nat):List Nm:=((bE c t).take i).filter λa=>aQ<|bY c a=aA a
def cQ(c:aG)(t:Bool)(d:Nat)(l:List bD):Nm->List Tp:=tT (gN c d l)<|bK c t
def iK(c:aG)(t:Bool)(d:Nat)(l:List bD)(r:Nm):List Tp:=if(vB c d l r).1 then cQ c t d l r else []
def FF(u:aH)(c:aG)(t:Bool)(d:Nat)(l:List bD)(P:List Nm):aH:=u++[.a7 ((kB (gN c d l) P).map .d9),.b7 (jJ P<|cQ c t d l),.b7 (jJ P<|iK c t d l)]
theorem Qa{g:Nm->Nat}(h:∀a,g a<=3):∀l:List Nm,lK g l<=l.length*3
 |[]=>eO _
 |a::l=>by unfold lK;rw[sH,aRE,AC,aQN,kY];exact iR (Qa h l)<|h a
theorem aPN(g:Nm->Nat)(l:List Nm)(r:Nm):kB g (l++[r])=kB g l++(eW<|g r).map λk=>vG r k:=by unfold kB;rw[LF,QT]
theorem Wu(l:List Nm)(r:Nm)(a:Nm->List Tp):jJ (l++[r]) a=jJ l a++[(nm r,cV<|a r)]:=gO ..
theorem TA{L:List Nm}{b:Nm->List Tp}{a:Nm}(h:a∈L):dF (nm a) (jJ L b)=aA (cV<|b a):=by unfold jJ;rw[AA (c:=nm) rS,bO h]
theorem Vr{u:aH}{n k:Nat}(x:Tp):gG u n (k+2) (bR x)=aA (bR x):=aN (hV V.a8)<|Bd (f:=gG u n<|k+1)<|nA.mpr λa a=>rfl
theorem UR{u:aH}{n k:Nat}(A:List Tp):gG u n (k+3) (cV A)=aA (cV A):=aN (hV V.a8)<|Bd (f:=gG u n<|k+2)<|nA.mpr λx a=>Vr x
theorem PK{f:V->Option V}:∀{l:List (V×V)},(∀p∈l,f p.2=aA p.2)->Bi f l=aA l
 |[],_=>rfl
 |p::l,h=>by show(f p.2).bind _=_;rw[h p (.head _),PK λx a=>h x<|.tail _ a];rfl
theorem aJW{u:aH}{m n p:Nat}{l:List V}(b:m<=p)(h:u[p]? =aA (.a7 l))(g:∀v∈l,gG u m n v=aA v):gG u m (n+1) (.a9 p)=aA (.a7 l):=by
 show(match mX p m with|true=>aA (V.a9 p)|false=>(match u[p]? with|some (O.a7 a)=>(zX (gG u m n) a).map V.a7|some (O.b7 a)=>(Bi (gG u m n) a).map V.b7|_=>aC))=_
 rw[show mX p m=aI from Ds.mpr λh=>rH _<|cO (bV h) b,h];exact aN (hV V.a7)<|Bd g
theorem KD{u:aH}{m n p:Nat}{l:List (V×V)}(b:m<=p)(h:u[p]? =aA (.b7 l))(g:∀v∈l,gG u m n v.2=aA v.2):gG u m (n+1) (.a9 p)=aA (.b7 l):=by
 show(match mX p m with|true=>aA (V.a9 p)|false=>(match u[p]? with|some (O.a7 a)=>(zX (gG u m n) a).map V.a7|some (O.b7 a)=>(Bi (gG u m n) a).map V.b7|_=>aC))=_
 rw[show mX p m=aI from Ds.mpr λh=>rH _<|cO (bV h) b,h];exact aN (hV V.b7)<|PK g
theorem vq{e:aH}{m n:Nat}{a b c h g f:V}(k:gG e m n a=aA h)(j:gG e m n b=aA g)(i:gG e m n c=aA f):gG e m (n+1) (.a8 [a,b,c])=aA (.a8 [h,g,f]):=by show(((gG e m n a).bind λa=>((gG e m n b).bind λb=>((gG e m n c).bind λc=>(aA []:Option (List V)).map λd=>c::d).map λd=>b::d).map λd=>a::d)).map V.a8=_;rw[k,j,i];rfl
theorem SN{d:Nat}{l:List bD}(e:∀a,gN c d l a<=3)(r:Nm):dM 1 (iK c t d l r)/\(iK c t d l r).length<=3:=by unfold iK;split;exact⟨CH ..,aR (bW<|Cv ..)<|e r⟩;exact⟨⟨.nil,λx b=>(nomatch b)⟩,eO _⟩
theorem ux{i:Nat}{r:Nm}(a:(bE c t)[i]? =aA r):wO c t (i+1)=wO c t i++jE (aQ<|bY c r=aA r) r:=by unfold wO;rw[tP,a,aRO];rfl
theorem jq{i:Nat}{r:Nm}(e:(bE c t)[i]? =aA r)(h:bY c r=aA r):∃m,bK c t=wO c t i++r::m:=by obtain⟨d,b⟩:=iU.mp e;refine⟨((bE c t).drop<|i+1).filter λa=>aQ<|bY c a=aA a,?_⟩;unfold bK wO;rw[show(r::((bE c t).drop<|i+1).filter λa=>aQ<|bY c a=aA a)=((bE c t).drop i).filter λa=>aQ (bY c a=aA a) by rw[aQT d,b,LD,cU h];rfl,←aRO,EG]
theorem aG6{i:Int}(h:nT i=aB):OB (.a5 i)=aA (.d9 (sX i)):=mJ h
theorem aMR(x:V):iX 8 x u=(eK x u).bind OB:=rfl
theorem aH2{i:Int}{j:Nat}(e:i=j)(h:nT j=aB):iX 8 (.a5 i) u=aA (.d9 (sX j)):=by subst e;rw[aMR,show eK (.a5 j) u=aA (.a5 j)from rfl,aU3];exact aG6 h
theorem Px{f:Nat}{x a v:V}(h:eK x u=aA a)(e:Mk f a=aA v):iX f x u=aA v:=by unfold iX;rw[h];exact e
theorem aG4{a b c:Nat}(h:a+b<=c):dZ .Gt (.a5 ((a:Int)+b)) (.a5 c) u=aA aI:=Sd (a:=a+b) h
theorem OM{C:cR}{i:Nat}{A B d:Co}{K:PF}{c:List V}{L:Lc}{b:Bool}(v:V)(g:lg i L=aA (.e8 b))(t:b=aB->∀a,a (.b8 v) L u->aS C A a [] L u)(f:b=aI->∀a,a (.b8 v) L u->aS C B a [] L u)(q:aS C d K (v::c) L u):aS C (.j2 (.a0 i (.br A B)) d) K c L u:=by show wL (lg i L) (aS C (.br A B)<|CD (aS C d K) c) [] L u;rw[g];exact vK (λe=>t e _ q) λe=>f e _ q
theorem Kj{d:List (V×V)}{ext:aH}{k:Nat}{x v:V}{R:PR}{a:List V}{L:Lc}(h:ext[k]? =aA (.b7 d))(b:dY x d=aB)(e:d.length<=1000)(c:∀p∈d,cN p.1 x=aI)(q:R a L (u++ext.set k (.b7 (d++[(x,v)])))):wS (El (.a9 (u.length+k)) x v<|u++ext) R a L:=
 tX (eQ rfl k h) (pV b<|qR e) ((wE rfl k _).trans<|aN (λd=>u++ext.set k (.b7 d))<|xG c) q
theorem aHW{d:Nat}{b:List bD}(k:SA c t w F u)(N:gT d b u)(j:∃C,u[18]? =aA (.g9 24 C)/\lZ 2248903923324291953395 C=aA (.a9 3))(ho:∀a∈bE c t,a∈aY c t)(hnd:(bE c t).Nodup)(hlo:(bE c t).length<=10)(Y:∀a,bY c a=aA a->a=T\/a=U\/a=E)(hch:JT c t)(hT:AU c b)(h3:∀a,gN c d b a<=3)
  (q:Q (.a8 [.a7 ((kB (gN c d b)<|bK c t).map .d9),.b7 (jJ (bK c t)<|cQ c t d b),.b7 (jJ (bK c t)<|iK c t d b)]) u):WC (n+5) 2401 [.a9 18,.a9 19] u Q:=by
 obtain⟨C,j,hs⟩:=j;refine wc aGJ rfl (wP.of rfl (oR rfl rfl (wP.of rfl (oR rfl rfl (dS.of rfl (cL (dN j) hs (bG (dN k.X.o) rfl (MK (k.j7 _) (cH.of rfl (gR 5 (λf f o=>[aA (.a9 18),aA<|.a9 19,aA<|.a9 (u.length+0),aA<|.a9 (u.length+1),aA<|.a9 (u.length+2),o 0,o 1,o 2]) (λi f=>FF u c t d b<|wO c t i) (λf f=>True) () rfl rfl trivial
  (λi r f o K' Z f H=> ?_) λf o f=> ?_))))))))))
 ·have hr:=ho r<|fT Z;have hPP:=ux Z;have hTL:=jq Z;have A:r∉wO c t i:=λh=>xL hnd Z (jA.mp h).1;have z:(wO c t i).length<=10:=aR (lA ..)<|pD hlo;generalize wO c t i=P at*;have H:∀x y,K' .e9 [aA (.a9 18),aA<|.a9 19,aA<|.a9 (u.length+0),aA<|.a9 (u.length+1),aA<|.a9 (u.length+2),aA<|nm r,x,y] (FF u c t d b<|P++jE (aQ<|bY c r=aA r) r):=λx y=>H () _ _ trivial rfl (aN (FF u c t d b) hPP.symm) trivial;have k':SA c t w F (FF u c t d b P):=k.j7 _;refine cL (dN j) hs<|bG k'.X.o rfl<|Cz k'.X hr<|dL (tS (bY c r)<|aA r) (λe=> ?_) λe=> ?_;rw[e]at H;have ht:=bQ e;obtain⟨m,hm⟩:=hTL ht;have L:mK (gN c d b) (bK c t) r=lK (gN c d b) P:=by unfold mK;rw[hm,UQ A]
  have s:lK (gN c d b) P<=30:=aR (Qa h3 P)<|BQ 3 z;have I:=h3 r;have hlr:(eW<|gN c d b r).length<=3:=pK▸I;have hal:((kB (gN c d b) P).map V.d9).length=lK (gN c d b) P:=(bP _).trans<|FR ..;have J:∀g,dY (nm r) (jJ P g)=aB:=λg=>jT<|Iw _ _;have p:∀g,(jJ P g).length<=1000:=λg=>aR (bW<|bP _)<|aR z<|bV rfl;have n0:iX 0 (.a9 (u.length+0)) (FF u c t d b P)=aA (.a5 (lK (gN c d b) P)):=Px (kO<|eQ rfl 0 rfl)<|aN (λk:Nat=>aA<|V.a5 k) hal;refine bG (dN N.o) rfl<|aHX k' ⟨dN N.o,dN N.t,dN N.r⟩ hr (Y r ht) hch hT<|dS.of rfl<|wP.of n0<|wP.of rfl<|cI (aG4<|aR (iR s I)<|bV rfl)<|wG.of (BH (a:=0) (eO _)<|aR I<|bV rfl)<|eE (l:=eW<|gN c d b r) (λk=> .a5 (0+(k:Int))) (λk=>[bR [mK (gN c d b) (bK c t) r+k]]) (λk hk K q=> ?_) ?_;refine wP.of n0<|wP.of (v:= .a5 ((lK (gN c d b) P+k:Nat):Int)) (aN (λi=>aA<|V.a5 i)<|aN _<|Ca _) ?_;rw[L]at q;exact q _;rw[mG,show((eW<|gN c d b r).map λk=>bR [mK (gN c d b) (bK c t) r+k])=(cQ c t d b r).map bR by unfold cQ tT;rw[kL];rfl]
  refine wG.of (fR (k:=3) (by unfold cQ;rw[Cv];exact I)) (wP.of rfl<|Kj rfl (J _) (p _) (Un A) ?_)
  rw[show jJ P (cQ c t d b)++[(nm r,V.a8<|(cQ c t d b r).map bR)]=jJ (P++[r]) (cQ c t d b)from(Wu ..).symm];have m1:(u++[O.a7 ((kB (gN c d b) P).map .d9),O.b7<|jJ (P++[r])<|cQ c t d b,O.b7<|jJ P<|iK c t d b])[u.length+1]? =aA (.b7 (jJ (P++[r])<|cQ c t d b)):=eQ rfl 1 rfl;refine OM (cV<|iK c t d b r) rfl (λe K' q=> ?_) (λe K' q=> ?_)<|Kj (k:=2) rfl (J _) (p _) (Un A) ?_;have e2:cV (cQ c t d b r)=cV (iK c t d b r):=by unfold iK;rw[e];rfl
  exact Bn (iJ m1) ((show qK (.b7 (jJ (P++[r])<|cQ c t d b)) (nm r)=_ by dsimp only[qK];rw[show dY (nm r) (jJ (P++[r])<|cQ c t d b)=aB from jT (Iw _ _)]).trans ((TA<|kM _<|.head _).trans<|aN aA e2)) q
  have e2:V.a8 []=cV (iK c t d b r):=by unfold iK;rw[e];rfl
  rw[←e2]at q;exact q;have w0:(u++[O.a7 ((kB (gN c d b) P).map .d9),O.b7<|jJ (P++[r])<|cQ c t d b,O.b7<|jJ P (iK c t d b)++[(nm r,cV<|iK c t d b r)]])[u.length+0]? =aA (.a7 ((kB (gN c d b) P).map .d9)):=eQ rfl 0 rfl;refine lR w0 rfl<|wG.of (BH (a:=0) (eO _)<|aR I<|bV rfl)<|eE (l:=eW<|gN c d b r) (λk=> .a5 (0+(k:Int))) (λk=>[.d9 (vG r k)]) (λk hk K q=> ?_) ?_;have X:=cO (qD.mp hk) I;exact wP.of rfl<|wP.of (v:= .d9 (sX k)) (aH2 (Ca _)<|GB (dR X) rfl)<|wP.of (aNY r k X)<|q _;rw[mG,show((eW<|gN c d b r).map λk=>V.d9<|vG r k)=((eW<|gN c d b r).map λk=>vG r k).map V.d9 by rw[kL];rfl]
  have M:((eW<|gN c d b r).map λk=>vG r k).length<=3:=(bP _).symm▸hlr;refine wG.of (fR M)<|Tr w0 rfl ?_ (wE rfl 0 _) ?_;rw[←gO];exact fR (k:=33) (by rw[cM,FR];exact iR s M)
  rw[←gO,←aPN,←Wu];exact H _ _;rw[e]at H;exact fS P▸H _ _
 ·rw[show wO c t (bE c t).length=bK c t by unfold wO;rw[oO];rfl]
  exact⟨⟨_,rfl⟩,_,vq (aJW (dI ..) (eQ rfl 0 rfl)<|nA.mpr λf f=>rfl) (KD (dI ..) (eQ rfl 1 rfl)<|nA.mpr λf f=>UR _)<|KD (dI ..) (eQ rfl 2 rfl)<|nA.mpr λf f=>UR _,q⟩
end
def zV(c:aG)(u:Nm->List Tp):Ty->List Tp
 | .h9=>[]
 | .u8=>gF<|u T++u U++u E
 | .nm a=>eY c u a
 | .l6 _=>[]
 | .j0 d a b=>if d then gF (eY c u a++eY c u b)else eY c u a
 | .r9 a b=>kR (eY c u a)<|eY c u b
 | .v2 a b x y=>gF<|kR (eY c u a) (eY c u b)++kR (eY c u x) (eY c u y)
 | .u6 _ x y=>kR (eY c u B)<|kR (eY c u x)<|eY c u y
section
variable{c:aG}{t:Bool}{u:Nm->List Tp}{a b:Nm}
theorem JL(h:∀r,dM 1<|u r)(a:Nm):dM 1 (eY c u a):=Pu λx b=>(jZ.mp b).elim λr d=>d.elim λe b=>(h r).f7 x b
theorem Jy{r:Nm}{x:Tp}:vI u [r] x↔x∈u r:=(Gu (d:=u) (r:=r) (a:=[])).symm
theorem so{x:Tp}:x∈eY c u a↔∃r,oE c a r/\vI u r x:=oA.trans (jZ.trans
 ⟨λb=>b.elim λr d=>d.elim λf l=>⟨[r],⟨r,f,rfl⟩,Jy.mpr l⟩,λk=>k.casesOn λm j=>j.casesOn λi h=>i.casesOn λr g=>g.casesOn λf e=>⟨r,f,Jy.mp<|e▸h⟩⟩)
theorem TB{r s:List Nm}:∀{x:Tp},vI u (r++s) x↔fH (vI u r) (vI u s) x:=by
 induction r with
 |nil=>exactλ{x}=>⟨λh=>⟨[],x,rfl,h,rfl⟩,λh=>h.casesOn λy z d c e=>by rw[e,show y=[]from d];exact c⟩
 |cons r f b=>exactλ{x}=>⟨λh=>(fH.E4 (P:=(· ∈u r)) h (λa=>id) λa=>b.mp).N4,λh=>(fH.E6 (P:=(· ∈u r)) h).E4 (λa=>id) λa=>b.mpr⟩
noncomputable def Kz(u:Nm->List Tp)(S:List Nm->Prop)(x:Tp):Prop:=∃r,S r/\vI u r x
theorem aB8{S R:List Nm->Prop}{x:Tp}:Kz u (Az S R) x↔fH (Kz u S) (Kz u R) x:=
 ⟨λh=>h.elim λc h=>h.1.casesOn λr s b a e=>(TB.mp<|e▸h.2).E4 (λc h=>⟨r,b,h⟩) λc h=>⟨s,a,h⟩,
  λh=>h.casesOn λy z f d e=>f.elim λr b=>d.elim λs a=>⟨r++s,⟨r,s,b.1,a.1,rfl⟩,TB.mpr ⟨y,z,b.2,a.2,e⟩⟩⟩
structure eP(u:Nm->List Tp)(k:Nat)(S:List Nm->Prop)(l:List Tp):Prop where
 b9:dM k l
 m9:∀x,x∈l↔Kz u S x
theorem eP.t0{k j:Nat}{S R:List Nm->Prop}{A B:List Tp}(h:eP u k S A)(g:eP u j R B):eP u (k+j) (Az S R) (kR A B):=
 ⟨h.b9.t0 g.b9,λx=>ED.trans<|Iff.trans ⟨λq=>q.E4 (λy=>(h.m9 y).mp) λy=>(g.m9 y).mp,λq=>q.E4 (λy=>(h.m9 y).mpr) λy=>(g.m9 y).mpr⟩ aB8.symm⟩
theorem eP.j7{k:Nat}{S R:List Nm->Prop}{A B:List Tp}(h:eP u k S A)(g:eP u k R B):eP u k (λr=>S r\/R r) (gF<|A++B):=by
 refine⟨Pu λx a=>(fU.mp a).elim (h.b9.f7 x)<|g.b9.f7 x,λx=>oA.trans<|fU.trans ⟨λa=> ?_,λc=>c.elim λr d=>d.elim λb a=>b.imp (λb=>(h.m9 x).mpr ⟨r,b,a⟩) λb=>(g.m9 x).mpr ⟨r,b,a⟩⟩⟩;rcases a with a|a
 obtain⟨r,b,h⟩:=(h.m9 x).mp a;exact⟨r,.inl b,h⟩;obtain⟨r,b,h⟩:=(g.m9 x).mp a;exact⟨r,.inr b,h⟩
theorem sB(h:∀r,dM 1<|u r)(a:Nm):eP u 1 (oE c a) (eY c u a):=⟨JL h a,λb=>so⟩
theorem Vf{k:Nat}:eP u k (λc=>False) []:=⟨⟨.nil,λc h=>(nomatch h)⟩,λc=>⟨λh=>((by contradiction)),λa=>a.elim λc b=>b.elim λh c=>h.elim⟩⟩
theorem MQ(h:∀r,dM 1<|u r)(a:Nm):eP u 1 (λr=>r=[a]) (u a):=⟨h a,λx=>⟨λc=>⟨[a],rfl,Jy.mpr c⟩,λd=>d.casesOn λf b=>b.casesOn λe c=>Jy.mp<|e▸c⟩⟩
theorem aCN{k:Nat}{S:List Nm->Prop}{A B:List Tp}(h:eP u k S A)(g:eP u k S B):A=B:=SE h.b9.r8 g.b9.r8 λx=>(h.m9 x).trans (g.m9 x).symm
theorem eP.R7{k:Nat}{S R:List Nm->Prop}{A:List Tp}(h:eP u k S A)(e:∀r,S r↔R r):eP u k R A:=⟨h.b9,λx=>(h.m9 x).trans ⟨λc=>c.elim λr d=>d.elim λg f=>⟨r,(e r).mp g,f⟩,λa=>a.elim λr b=>b.elim λg f=>⟨r,(e r).mpr g,f⟩⟩⟩
theorem aGA(h:∀r,dM 1<|u r)(g:∀a,a∈bK c t↔a=T\/a=U\/a=E):∀ty:Ty,eP u (sV ty) (Ok c t ty) (zV c u ty)
 | .h9=>Vf
 | .u8=>by
  refine eP.R7 (S:=λr=>(r=[T]\/r=[U])\/r=[E]) ?_ λr=>⟨λi=> ?_,λd=>d.elim λa f=>f.elim λj e=> ?_⟩;have:=((MQ h T).j7<|MQ h U).j7<|MQ h E;rwa[show gF (gF (u T++u U)++u E)=gF (u T++u U++u E)from Of λx=>by rw[fU,oA,←fU]]at this
  exact i.elim (λi=>i.elim (λe=>⟨T,(g T).mpr<|.inl rfl,e⟩) λe=>⟨U,(g U).mpr<|.inr (.inl rfl),e⟩) λe=>⟨E,(g E).mpr<|.inr (.inr rfl),e⟩;exact((g a).mp j).elim (λx=> .inl (.inl (x▸e))) λx=>x.elim (λx=> .inl (.inr (x▸e))) λx=> .inr (x▸e)
 | .nm a=>sB h a
 | .l6 _=>Vf
 | .j0 aB a b=>(sB h a).j7<|sB h b
 | .j0 aI a _=>sB h a
 | .r9 a b=>(sB h a).t0<|sB h b
 | .v2 a b x y=>((sB h a).t0<|sB h b).j7<|(sB h x).t0<|sB h y
 | .u6 _ x y=>(sB h B).t0<|(sB h x).t0<|sB h y
theorem ny{L:List Nm}(h:dV L u){j m:Nat}{S:List Nm->Prop}{a:List (List Nm)}(b:CT c t (j+1) m S a):eP u (j+1) S (gF<|zR c u a):=by refine⟨Pu λx d=> ?_,λx=>oA.trans<|SZ b.ok b.m8⟩;obtain⟨r,f,d⟩:=(SZ b.ok b.m8).mp d;obtain⟨l,g,e⟩:=(b.m8 r).mp f;have:=aN EH e;rw[bP,(b.ok l g).1,bP]at this;exact(Nn h.b9 d).trans this.symm
theorem nI(h:∀r,(u r).length<=3)(a:Nm):(eY c u a).length<=9:=aR (Ew _)<|aR (tE λr b=>h r)<|BQ 3<|UK c a
theorem SR{A B:List Tp}{m n k:Nat}(h:A.length<=m)(g:B.length<=n)(a:jV (m+n) k=aB):(gF<|A++B).length<=k:=aR (Ew _)<|cM▸aR (iR h g) (bV a)
theorem AV{A B:List Tp}{m n k:Nat}(h:A.length<=m)(g:B.length<=n)(a:jV (m*n) k=aB):(kR A B).length<=k:=aR (Mp A B)<|aR (LE h g)<|bV a
theorem lX{a m k:Nat}(h:a<=m)(b:jV m k=aB):a<=k:=aR h<|bV b
theorem lq(h:∀r,(u r).length<=3):∀ty:Ty,(zV c u ty).length<=729
 | .h9=>eO _
 | .u8=>aR (Ew _) (by rw[cM,cM];exact lX (iR (iR (h T)<|h U)<|h E) rfl)
 | .nm a=>lX (nI h a) rfl
 | .l6 _=>eO _
 | .j0 aB a b=>SR (nI h a) (nI h b) rfl
 | .j0 aI a _=>lX (nI h a) rfl
 | .r9 a b=>AV (nI h a) (nI h b) rfl
 | .v2 a b x y=>SR (AV (k:=81) (nI h a) (nI h b) rfl) (AV (k:=81) (nI h x) (nI h y) rfl) rfl
 | .u6 _ x y=>AV (nI h B) (AV (k:=81) (nI h x) (nI h y) rfl) rfl
end
def pW(s:Nm)(k:_root_.Fin 4):aX:=(iO s++cD ".")++dT k
def Bw(a:Nm):aX:=cD "scope "++iO a
noncomputable def LX(H:List aP)(e:_root_.Fin 4):Ty:=match H.find? (λg=>aQ<|g.k=e)with|some g=>g.ty|none=> .h9
def mN(H:List aP)(f:aP):Ty:=match f.ty with
 | .l6 e=>LX H e
 |ty=>ty
def DX(c:aG)(t:Bool)(H:List aP)(f:aP):List (List Nm):=match f.ty with
 | .l6 _=>fP c<|uO c (gQ c f.g8)<|fP c<|fP c<|lY (gQ c f.g8)<|FU c t<|mN H f
 |_=>FU c t<|mN H f
def mU(f:aP):V:=kF f.g8 f.k
def CP(c:aG)(t:Bool)(H:List aP)(f:aP):V:=knd (sV (mN H f)+1)<|fP c<|lY (gQ c f.g8)<|DX c t H f
structure dB(c:aG)(t:Bool)(H:List aP):Prop where
 v9:∀f∈H,∀g∈H,f.k=g.k->f=g
 nd:H.Nodup
 g8:∀f∈H,f.g8∈aY c t
 ty:∀f∈H,(∀e,f.ty≠ .l6 e)->rN c t f.ty
 l6:∀(i:Nat) (f:aP) (e:_root_.Fin 4),(bX c t H)[i]? =aA f->f.ty= .l6 e->∃j g,j<i/\(bX c t H)[j]? =aA g/\g.k=e/\g.g8=f.g8/\∀e,g.ty≠ .l6 e
 f7:H.length<=4
theorem Yg(s a:Nm)(e b:_root_.Fin 4):cN (kF s e) (kF a b)=(aQ (s=a)&&aQ (e=b)):=by
 have:=nS (nS (p:=λs=>yK.all λa=>aQ<|∀e b:_root_.Fin 4,cN (kF s e) (kF a b)=(aQ (s=a)&&aQ (e=b))) (by decide+kernel) s) a
 exact bQ this e b
noncomputable def Oc(a:Option V)(s:aX):Bool:=match a with|some (.d9 x)=>x==s|_=>aI
theorem WV{a:Option V}{s:aX}(h:Oc a s=aB):a=aA (.d9 s):=by
 induction a using jP with
 |none=>exact iZ h
 |some v=>induction v using V.casesOn with
  |d9 x=>exact aN (λx=>aA<|V.d9 x)<|beq_iff_eq.mp h
  |_=>exact iZ h
theorem ji(s:Nm)(k:_root_.Fin 4):((Be [.d9 (iO s),.d9 (cD "."),.d9 (dT k)]).bind λt=>gI (aQ<|t.length<=cF)<|.d9 t)=aA (.d9 (pW s k)):=
 WV (bQ (nS (p:=λs=>aQ<|∀k:_root_.Fin 4,Oc ((Be [.d9 (iO s),.d9 (cD "."),.d9 (dT k)]).bind λt=>gI (aQ<|t.length<=cF)<|.d9 t) (pW s k)=aB) (by decide+kernel) s) k)
theorem aNL(a:Nm):((Be [.d9 (cD "scope "),.d9 (iO a)]).bind λt=>gI (aQ<|t.length<=cF)<|.d9 t)=aA (.d9 (Bw a)):=
 WV (nS (p:=λa=>Oc ((Be [.d9 (cD "scope "),.d9 (iO a)]).bind λt=>gI (aQ<|t.length<=cF)<|.d9 t)<|Bw a) (by decide+kernel) a)
section
variable{c:aG}{t:Bool}{H:List aP}
theorem pQ(g:∀a∈aY c t,a∈bE c t)(e:∀f∈H,f.g8∈aY c t){f:aP}:f∈bX c t H↔f∈H:=
 jZ.trans ⟨λb=>b.elim λa d=>d.elim λi h=>(jA.mp h).1,λh=>⟨f.g8,g _<|e f h,jA.mpr ⟨h,lW _⟩⟩⟩
theorem Cg(i:(bE c t).Nodup)(h:H.Nodup):(bX c t H).Nodup:=by refine aRJ.mpr ⟨λa l=>h.filter _,i.imp λ{a b} d x g y f e=> ?_⟩;have k:=beq_iff_eq.mp (jA.mp g).2;have j:=beq_iff_eq.mp (jA.mp f).2;exact d<|k.symm.trans<|(aN aP.g8 e).trans j
theorem Tn{c:Type}{p:c->Bool}{g:c}{l:List c}:l.Nodup->g∈l->p g=aB->(∀x∈l,p x=aB->x=g)->l.filter p=[g]:=by
 induction l with
 |nil=>exactλj h j j=>aZ h sJ
 |cons a l n=>intro q h k d;obtain⟨m,r⟩:=EX.mp q;rw[LD];refine(dA.mp h).elim (λe=> ?_) λh=> ?_;subst e;rw[bO k,eh.mpr λx b f=>m<|d x (.tail _ b) f▸b];rw[bH λi=>m<|d a (.head _) i▸h];exact n r h k λx b=>d x<|.tail _ b
theorem Yd(i:(bE c t).Nodup)(d:∀a∈aY c t,a∈bE c t)(b:dB c t H){f:aP}(e:f∈H):xU c t H (dT f.k)=[f]:=
 Tn (Cg i b.nd) ((pQ d b.g8).mpr e) (lW _) λg j h=>b.v9 g ((pQ d b.g8).mp j) f e<|bQ<|(Nq ..).symm.trans h
theorem iy(d:dB c t H){g:aP}(b:g∈H):LX H g.k=g.ty:=by
 unfold LX;cases a:H.find? (λx=>aQ<|x.k=g.k)with
 |none=>exact aZ (cU rfl)<|aTL.mp a g b
 |some e=>exact aN aP.ty<|d.v9 e (QW a) g b<|bQ<|aRP (p:=λx:aP=>aQ<|x.k=g.k) a
theorem FQ{f:aP}(h:∀e,f.ty≠ .l6 e):mN H f=f.ty/\DX c t H f=FU c t f.ty:=by
 induction f using aP.casesOn with|mk s k ty=>
 induction ty using Ty.casesOn with
 |l6 e=>exact aZ rfl<|h e
 |_=>exact⟨rfl,rfl⟩
theorem PE(a:dB c t H){f g:aP}{e:_root_.Fin 4}(h:f.ty= .l6 e)(d:g∈H)(b:g.k=e):mN H f=g.ty:=by unfold mN;rw[h];exact b▸iy a d
theorem HU(ty:Ty):(∃e,ty= .l6 e)\/∀e,ty≠ .l6 e:=by
 induction ty with
 |l6 e=>exact .inl ⟨e,rfl⟩
 |_=>exact .inr λe h=>(by contradiction)
theorem JJ(n:∀a∈aY c t,a∈bE c t)(d:dB c t H){i:Nat}{f:aP}(h:(bX c t H)[i]? =aA f):rN c t (mN H f):=by
 have k:=λ{i:Nat} {f:aP} (h:(bX c t H)[i]? =aA f)=>(pQ n d.g8).mp<|fT h;rcases HU f.ty with⟨e,m⟩|b
 obtain⟨j,g,_,l,p,_,b⟩:=d.l6 i f e h m;rw[PE d m (k l) p];exact d.ty g (k l) b;rw[(FQ (c:=c) (t:=t) b).1];exact d.ty f (k h) b
theorem HX(l:(bE c t).length<=10)(d:∀a∈bE c t,a∈aY c t)(j:∀a∈aY c t,a∈bE c t)(b:dB c t H){i:Nat}{f:aP}(k:(bX c t H)[i]? =aA f):CT c t (sV<|mN H f) 27 (Ok c t<|mN H f) (DX c t H f):=by
 have h:=kx d l _<|JJ j b k;rcases HU f.ty with⟨e,m⟩|g
 have q:=aKF (b.g8 f<|(pQ j b.g8).mp<|fT k) h;unfold DX;rw[m];exact q;obtain⟨p,n⟩:=FQ (c:=c) (t:=t) (H:=H) g;rw[p]at h⊢;rw[n];exact h
theorem JI(ty:Ty):sV ty<=3:=by cases ty<;>exact bV rfl
theorem aIL(ty:Ty):0<sV ty:=by cases ty<;>exact bV rfl
def CZ(c:aG)(u:Nm->List Tp)(H:List aP)(f:aP):List Tp:=kR (eY c u f.g8)<|zV c u<|mN H f
theorem RN{u:Nm->List Tp}{L:List Nm}(e:dV L u)(m:(bE c t).length<=10)(d:∀a∈bE c t,a∈aY c t)(h:∀a∈aY c t,a∈bE c t)(l:∀a,a∈bK c t↔a=T\/a=U\/a=E)(b:dB c t H){i:Nat}{f:aP}(j:(bX c t H)[i]? =aA f):
  gF (zR c u<|fP c<|lY (gQ c f.g8)<|DX c t H f)=CZ c u H f/\dM (sV (mN H f)+1) (CZ c u H f):=by
 have k:=((mD<|b.g8 f<|(pQ h b.g8).mp<|fT j).t0<|HX m d h b j).x7;have g:=(sB (c:=c) e.b9 f.g8).t0<|aGA e.b9 l<|mN H f;rw[kY 1]at k g;exact⟨aCN (ny e k) g,g.b9⟩
theorem ly{v:aP->V}{l:List aP}(c:∀f∈l,∀g∈l,f.k=g.k->f=g){f:aP}(b:f∈l):dF (mU f) (l.map λf=>(mU f,v f))=aA (v f):=by
 induction l with
 |nil=>cases b
 |cons a l d=>show(if cN (mU a) (mU f)then aA (v a)else dF (mU f) (l.map λf=>(mU f,v f)))=_;rw[show cN (mU a) (mU f)=_ from Yg ..];by_cases h:a=f;subst h;rw[cU rfl,cU rfl];rfl;rw[fM λe:a.k=f.k=>h<|c a (.head _) f b e,Qm,bH cC];exact d (λf b g i=>c f (.tail _ b) g<|.tail _ i)<|(dA.mp b).resolve_left λe=>h e.symm
theorem HP{v:aP->V}{l:List aP}{f:aP}(h:∀g∈l,g.k≠f.k):∀p∈l.map (λf=>(mU f,v f)),cN p.1 (mU f)=aI:=
 nA.mpr λg a=>(Yg ..).trans (by rw[fM (h g a),Qm])
theorem ND{v:aP->V}(l:List aP):(l.map λf=>(mU f,v f)).all (λp=>gP p.1)=aB:=by rw[qZ];exact cX.mpr λa a=>rfl
end
section
variable{n:Nat}{Q:V->aH->Prop}{I:aH}{c:aG}{t:Bool}{H:List aP}{F:List (Nat×V)}{m:Nat}
def wN(c:aG)(t:Bool)(H:List aP)(l:List aP):List (V×V):=l.map λf=>(mU f,CP c t H f)
def wC(l:List aP):List (V×V):=l.map λf=>(mU f,.e8 aB)
theorem Bk(e:(bE c t).Nodup)(d:∀a∈aY c t,a∈bE c t)(b:dB c t H):(bX c t H).length<=4:=aR (PS (Cg e b.nd) λg f=>(pQ d b.g8).mp f) b.f7
theorem xN{b c:Type}{g:b->c}{l:List b}{i:Nat}{a:b}(h:l[i]? =aA a):(l.take<|i+1).map g=(l.take i).map g++[g a]:=by rw[tP,h,gO];rfl
theorem aA1(hl:(bE c t).length<=10)(hn:(bE c t).Nodup)(y:∀a∈bE c t,a∈aY c t)(z:∀a∈aY c t,a∈bE c t)(d:dB c t H){i:Nat}{f:aP}(K:(bX c t H)[i]? =aA f)
  (k:KS c t H F (wN c t H<|(bX c t H).take i) (wC<|(bX c t H).take i) (m+1) I) (q:∀b,KS c t H F (wN c t H<|(bX c t H).take<|i+1) (wC<|(bX c t H).take<|i+1) m b->Fr I b->Q (CP c t H f) b):WC (n+22) 3105 [.a9 10,nm f.g8,.d9 (dT f.k)] I Q:=by
 have N:=Bk hn z d;have l:=lX N (k:=100) rfl;have mf:=λ{f:aP} (h:f∈bX c t H)=>(pQ z d.g8).mp h;have M:=mf<|fT K;have tk:∀g∈(bX c t H).take i,g∈H:=λg s=>mf<|QU s;have r:∀g∈(bX c t H).take i,g.k≠f.k:=λg s e=>xL (Cg hn d.nd) K<|d.v9 g (tk g s) f M e▸s;have lk:∀v:aP->V,(((bX c t H).take i).map λf=>(mU f,v f)).length<=100:=λv=>bP (as:=(bX c t H).take i) _▸pD l;have q:∀b,KS c t H F (gV (mU f) (CP c t H f)<|wN c t H<|(bX c t H).take i) (gV (mU f) (.e8 aB)<|wC<|(bX c t H).take i) m b->Fr I b->Q (CP c t H f) b:=λb k' fr=>q b (by have e1:gV (mU f) (CP c t H f) (wN c t H<|(bX c t H).take i)=wN c t H ((bX c t H).take<|i+1):=(xG<|HP r).trans (xN K).symm;have e2:gV (mU f) (.e8 aB) (wC<|(bX c t H).take i)=wC ((bX c t H).take<|i+1):=(xG<|HP r).trans (xN K).symm;rw[←e1,←e2];exact k') fr
 have go:=λhty=>xo (n:=n) (f:=f) k (d.g8 f M) l (Yd hn z d M) rfl (ND _) (ND _) (Bp<|HP r) (Bp<|HP r) (lk _) (lk _) (HX hl y z d K) (lX (JI _) rfl) hty q;refine go λ{b Q'} k' L=> ?_;unfold aP.u7;rcases HU f.ty with⟨e,he⟩|A
 ·obtain⟨j,g,hji,hj,hk,hs,A⟩:=d.l6 i f e K he;have s:=mf<|fT hj;obtain⟨p,x⟩:=FQ (c:=c) (t:=t) (H:=H) A;have P:=HX hl y z d hj;rw[p,x]at P;unfold DX at L;rw[PE d he s hk]at L;rw[he]at L⊢;refine aDP k' (d.g8 f M) l (ND _) ⟨⟨g,hk▸Yd hn z d s,hs⟩,aIL _,lX (JI _) rfl,P,?_⟩ L;rw[show kF f.g8 e=mU g by unfold mU;rw[hs,hk]]
  refine(ly (v:=CP c t H) (λf M g s=>d.v9 f (tk f M) g<|tk g s) (wT.mpr ⟨j,by rw[aUM,bO hji];exact hj⟩)).trans ?_
  unfold CP;rw[p,x,hs]
 ·obtain⟨p,x⟩:=FQ (c:=c) (t:=t) (H:=H) A;rw[p,x]at L;exact aPO k' l y hl f.ty (p▸JJ z d K) L
end
def xW(c:aG)(t:Bool)(d:Nat)(l:List bD)(a:Nm):List Tp:=if a∈bK c t then iK c t d l a else []
def mC(c:aG)(t:Bool)(d:Nat)(l:List bD)(a:Nm):V:= .a8 [nm a,.a5 (1:Nat),cV<|xW c t d l a,cV<|eY c (cQ c t d l) a]
def Bu(c:aG)(u:Nm->List Tp)(H:List aP)(f:aP):V:= .a8 [.d9 (pW f.g8 f.k),.a5 (sV (mN H f)+1:Nat),cV [],cV<|CZ c u H f]
noncomputable def rV(A:List Tp):List Tp:=(A.zip A.tail).map λp=>p.1++p.2
def VU(u:Nm->List Tp):V:= .a8 [vS "o/next",.a5 (2:Nat),cV<|rV<|u E,cV<|rV<|u E]
def sS(c:aG)(l:List bD)(a:Nm)(i:Nat):List V:=match lN l a with
 |some x=>if bY c a=aA a then []else [.a8 [.d9 (Bw a),Bq x i]]
 |none=>[]
def jK(c:aG)(l:List bD)(L:List Nm):List V:=L.zipIdx.flatMap λp=>sS c l p.1 p.2
theorem Vl(c:aG)(l:List bD)(L:List Nm)(a:Nm):jK c l (L++[a])=jK c l L++sS c l a L.length:=by unfold jK;rw[aU1,LF,jH];exact aN _<|fS _
noncomputable def JS:List (Nat×V):=[(2248903923324291953395,.a9 3),(63304348275,.a9 10)]
structure BS(c:aG)(t:Bool)(H:List aP)(F:List (Nat×V))(d:Nat)(l:List bD)(J:aH)(o C:List V)(w Y Z:List (V×V))(m:Nat)(I:aH):Prop where
 K:KS c t H F Y Z m I
 B:gD (kB (gN c d l)<|bK c t).length C w I
 U:I[28]? =aA (.g9 23 (uF (bK c t)<|cQ c t d l))
 N:gT d l I
 L:I[22]? =aA (.a7 o)
 S:I[18]? =aA (.g9 24 JS)
 z:I.length=29
 f:∀p,p<10->I[p]? =J[p]?
section
variable{n:Nat}{Q:V->aH->Prop}{I J:aH}{c:aG}{t:Bool}{H:List aP}{F:List (Nat×V)}{d:Nat}{X:List bD}{o C:List V}{w Y Z:List (V×V)}{m:Nat}{a:Nm}
theorem KS.b9(k:KS c t H F Y Z m I){p:Nat}(e:mX 17 p=aB)(a:O):KS c t H F Y Z m (I.set p a):=
 have e:=bV e;have d:∀{q} {x:O},jV q 17=aB->I[q]? =aA x->(I.set p a)[q]? =aA x:=λh g=>fN g<|jQ<|fZ (bV h) e;k.F4.elim λb f=>f.elim λj i=>
 ⟨⟨d rfl k.X.o,k.X.ke,k.X.ks,d rfl k.X.e,d rfl k.X.s⟩,k.ko,k.kw,k.kp,d rfl k.k6,d rfl k.K,d rfl k.x4,d rfl k.F8,⟨b,d rfl j,i⟩,d rfl k.H9⟩
theorem KS.j7(k:KS c t H F Y Z m I)(ext:aH):KS c t H F Y Z m (I++ext):=
 k.F4.elim λa b=>b.elim λe d=>
 ⟨k.X.j7 _,k.ko,k.kw,k.kp,dN k.k6,dN k.K,dN k.x4,dN k.F8,⟨a,dN e,d⟩,dN k.H9⟩
theorem KS.sa(k:KS c t H F Y Z m I):SA c t H F I:=⟨k.X,k.ko,k.kw,k.kp,k.k6⟩
theorem BS.fr(b:BS c t H F d X J o C w Y Z m I){g r:List V}{f i s:List (V×V)}{L:Nat}{a:aH}(k:KS c t H F i s L a)(h:∀p,(jV p 9||Nat.blt 17 p)=aB->(bZ p 22||Nat.beq p 26||Nat.beq p 27)=aI->a[p]? =I[p]?)(z:a.length=I.length)
  (K:a[22]? =aA (.a7 g)) (A:a[26]? =aA (.a7 r)) (y:a[27]? =aA (.b7 f)):BS c t H F d X J g r f i s L a:=
 b.B.u.elim λl n=>n.elim λe j=>j.elim λP N=>
 ⟨k,⟨⟨l,e,(h 23 rfl rfl).trans P,N⟩,(h 25 rfl rfl).trans b.B.o,A,y⟩,(h 28 rfl rfl).trans b.U,⟨(h 19 rfl rfl).trans b.N.o,(h 20 rfl rfl).trans b.N.t,(h 21 rfl rfl).trans b.N.r⟩,K,(h 18 rfl rfl).trans b.S,z.trans b.z,λp x=>(h p (by rw[aUO (gW x)];rfl) (by have v:∀q,jV 10 q=aB->bZ p q=aI:=λq M=>Ds.mpr λe=>rH _<|cO x<|iQ e▸bV M;rw[v 22 rfl,v 26 rfl,v 27 rfl];rfl)).trans (b.f p x)⟩
theorem BS.j5(b:BS c t H F d X J o C w Y Z m I){f:List V}{a:List (V×V)}:BS c t H F d X J o f a Y Z m ((I.set 27<|.b7 a).set 26<|.a7 f):=
 b.fr ((b.K.b9 rfl _).b9 rfl _) (λp j g=>by obtain⟨i,h⟩:=QP.mp g;rw[KR λe=>DB (QP.mp i).2 e.symm,KR λe=>DB h e.symm]) (by rw[Hl,Hl]) (fN (fN b.L<|iD rfl)<|iD rfl) (yL<|fN b.B.b<|iD rfl) (fN (yL b.B.n)<|iD rfl)
theorem BS.F9(b:BS c t H F d X J o C w Y Z m I){a:List V}:BS c t H F d X J a C w Y Z m (I.set 22<|.a7 a):=
 b.fr (b.K.b9 rfl _) (λp g f=>KR λe=>DB (QP.mp (QP.mp f).1).1 e.symm) Hl (yL b.L) (fN b.B.b<|iD rfl) (fN b.B.n<|iD rfl)
theorem BS.n5(b:BS c t H F d X J o C w Y Z m I){i j:List (V×V)}{l:Nat}{a:aH}(k:KS c t H F i j l a)(f:Fr I a):BS c t H F d X J o C w i j l a:=
 have g:∀p,(jV p 9||Nat.blt 17 p)=aB->a[p]? =I[p]? :=λp h=>f.2 p (λe=>by rw[e]at h;exact iZ h) (λe=>by rw[e]at h;exact iZ h) λe=>by rw[e]at h;exact iZ h
 b.fr k (λp h n=>g p h) f.1 ((g 22 rfl).trans b.L) ((g 26 rfl).trans b.B.b) ((g 27 rfl).trans b.B.n)
end
structure bS(c:aG)(t:Bool):Prop where
 f7:(bE c t).length<=10
 nd:(bE c t).Nodup
 e7:∀a∈bE c t,a∈aY c t
 i7:∀a∈aY c t,a∈bE c t
 N2:∀a,bY c a=aA a->a=T\/a=U\/a=E
 m8:∀a,a∈bK c t↔a=T\/a=U\/a=E
 I6:∀a∈aY c t,∀r,bY c a=aA r->r∈bK c t
 R1:JT c t
 e:E∈aY c t
section
variable{n:Nat}{Q:V->aH->Prop}{H Z:aH}{c:aG}{t:Bool}{P:List aP}{F:List (Nat×V)}{d:Nat}{w:List bD}{j J:List V}{Y u X:List (V×V)}{m:Nat}{a:Nm}
theorem We{r s:Nm}{i a:Nat}(c:i<3)(b:a<3)(h:vG r i=vG s a):r=s/\i=a:=by
 have:=nS (nS (p:=λr=>yK.all λs=>(eW 3).all λi=>(eW 3).all λa=> !aQ (vG r i=vG s a)||(aQ (r=s)&&aQ (i=a))) (by decide+kernel) r) s
 have:=cX.mp (cX.mp this i<|qD.mpr c) a<|qD.mpr b;rw[cU h]at this;obtain⟨e,d⟩:=sK.mp this;exact⟨bQ e,bQ d⟩
theorem sn{g:Nm->Nat}(h:∀r,g r<=3){L:List Nm}(t:L.Nodup):(kB g L).Nodup:=by have f:∀{r k},k∈eW (g r)->k<3:=λ{r k} n=>cO (qD.mp n)<|h r;refine aRJ.mpr ⟨λr A=>AE.mpr<|aRN.imp_of_mem λ{a b} s q d e=>lU d (We (f s) (f q) e).2,t.imp λ{a b} d x m y l e=> ?_⟩;obtain⟨i,p,z⟩:=gJ.mp m;obtain⟨c,o,v⟩:=gJ.mp l;exact d (We (f p) (f o)<|z.trans<|e.trans v.symm).1
theorem VX{g:Nm->Nat}:∀{L:List Nm} {r:Nm},r∈L->mK g L r+g r<=lK g L
 |[],_,h=>(by contradiction)
 |a::L,r,h=>by unfold mK;rw[QV];by_cases e:a=r;subst e;rw[cU rfl];show 0+g a<=g a+lK g L;rw[jH];exact dI ..;rw[fM e];show g a+mK g L r+g r<=g a+lK g L;rw[kX];exact fG (VX<|(dA.mp h).resolve_left λb=>e b.symm) _
noncomputable def Lt(N:Nat)(A:List Tp):Prop:=∀r∈A,∀x∈r,x<N
theorem aIC{g:Nm->Nat}{L:List Nm}{r:Nm}(h:r∈L):Lt (lK g L) (tT g L r):=
 nA.mpr λk b a c=>dU.mp c▸cO (rF (qD.mp b) _) (VX h)
def nM(c:aG)(t:Bool)(d:Nat)(l:List bD)(P:List aP):List V:=(bE c t).map (mC c t d l)++(bX c t P).map (Bu c (cQ c t d l) P)++[VU (cQ c t d l)]
noncomputable def xS(v:V):aX:=match v with| .a8 (.d9 s::_)=>s|_=>yQ
theorem PG{a b:Nm}(h:iO a=iO b):a=b:=bQ<|(zM a b).symm.trans<|beq_iff_eq.mpr h
theorem jl(e:∀a,gN c d w a<=3)(a:Nm):dM 1 (xW c t d w a)/\(xW c t d w a).length<=3/\∀r∈xW c t d w a,r∈eY c (cQ c t d w) a:=by
 unfold xW;split
 ·next h=>
  have g:bY c a=aA a:=bQ (jA.mp h).2;refine⟨(SN e a).1,(SN e a).2,λr b=> ?_⟩;unfold eY tD;rw[Cq g,QT,oA];unfold iK at b;split at b;exact b;exact aZ b nofun
 exact⟨⟨.nil,λx f=>(nomatch f)⟩,eO _,λr b=>((by contradiction))⟩
theorem FL(h:bS c t){a:Nm}(b:a=T\/a=U\/a=E):Lt (kB (gN c d w)<|bK c t).length (cQ c t d w a):=by rw[FR];exact aIC<|(h.m8 a).mpr b
theorem pP(h:bS c t)(i:a∈aY c t):Lt (kB (gN c d w)<|bK c t).length (eY c (cQ c t d w) a):=λr b=>
 (jZ.mp<|oA.mp b).elim λy e=>e.elim λf b=>
 FL h (h.N2 y<|aLV (t:=t) (L:=bK c t) (λk g=>g) i f) r b
theorem Ua(c:aG)(l:List bD)(a:Nm)(i:Nat):(sS c l a i).length<=1:=by unfold sS;split;split;exact eO _;exact bT _;exact eO _
theorem Yl(c:aG)(l:List bD)(L:List Nm):(jK c l L).length<=L.length:=aR (tE λp a=>Ua c l p.1 p.2)<|bW<|(Nat.mul_one _).trans fh
theorem Ek{A B:List Tp}{N:Nat}(g:Lt N A)(f:Lt N B):Lt N (kR A B):=λr d x c=>
 (ED.mp d).casesOn λy z b a e=>
 (fU.mp<|e▸c).elim (g y b x) (f z a x)
theorem Xv{A B:List Tp}{N:Nat}(c:Lt N A)(b:Lt N B):Lt N (gF<|A++B):=λr a=>(fU.mp<|oA.mp a).elim (c r)<|b r
theorem aJV(h:bS c t):∀ty:Ty,rN c t ty->Lt (kB (gN c d w)<|bK c t).length (zV c (cQ c t d w) ty)
 | .h9,_=>λi g=>(by contradiction)
 | .u8,_=>λr g=>(fU.mp<|oA.mp g).elim (λg=>(fU.mp g).elim (FL h (.inl rfl) r)<|FL h (.inr (.inl rfl)) r)<|FL h (.inr (.inr rfl)) r
 | .nm a,k=>pP h k
 | .l6 _,_=>λi g=>(by contradiction)
 | .j0 aB a b,f=>Xv (pP h f.1)<|pP h f.2
 | .j0 aI a b,f=>pP h f.1
 | .r9 a b,f=>Ek (pP h f.1)<|pP h f.2
 | .v2 a b e v,f=>Xv (Ek (pP h f.1.1)<|pP h f.1.2)<|Ek (pP h f.2.1)<|pP h f.2.2
 | .u6 _ e v,f=>Ek (pP h f.1)<|Ek (pP h f.2.1)<|pP h f.2.2
theorem aOD(h:bS c t)(a:dB c t P){i:Nat}{f:aP}(b:(bX c t P)[i]? =aA f):Lt (kB (gN c d w)<|bK c t).length (CZ c (cQ c t d w) P f):=
 Ek (pP h<|a.g8 f<|(pQ h.i7 a.g8).mp<|fT b) (aJV h _<|JJ h.i7 a b)
theorem Yb(a:∀r,(cQ c t d w r).length<=3)(f:aP):(CZ c (cQ c t d w) P f).length<=10000:=AV (nI a _) (lq a _) rfl
theorem Tv(a s:Nm)(k:_root_.Fin 4):iO a≠pW s k:=bQ (nS (nS (p:=λa=>yK.all λs=>aQ<|∀k,iO a≠pW s k) (by decide+kernel) a) s) k
theorem RM{s b:Nm}{k a:_root_.Fin 4}:pW s k=pW b a->k=a:=bQ (nS (nS (p:=λs=>yK.all λb=>aQ<|∀k a,pW s k=pW b a->k=a) (by decide+kernel) s) b) k a
theorem IW(a:Nm):iO a≠cD "o/next"/\∀k,pW a k≠cD "o/next":=bQ (nS (p:=λa=>aQ<|iO a≠cD "o/next"/\∀k,pW a k≠cD "o/next") (by decide+kernel) a)
theorem aJA{N:Nat}{J:List V}{Y:List (V×V)}(a:gD N J Y H){x:aX}{k:Nat}(l:0<k){A:List Tp}(e:dM k A)(d:Lt N A)(c:A.length<=10000)
  (f:∀p∈Y,cN p.1 (.d9 x)=aI) (g:Y.all (λp=>iC p.1)=aB) (i:Y.length<=1000) (m:J.length<=1000)
  (q:∀b,b=(H.set 27<|.b7 (Y++[(.d9 x,.a5 J.length)])).set 26 (.a7 (J++[.a8 [.d9 x,.a5 (k:Nat),cV A,cV A]]))->gD N (J++[.a8 [.d9 x,.a5 (k:Nat),cV A,cV A]]) (Y++[(.d9 x,.a5 J.length)]) b->Q (.a5 J.length) b):WC (n+4) 1603 [.a9 25,.d9 x,.a5 (k:Nat),cV A] H Q:=
 wc aMH rfl (bG a.o rfl<|Oe (n:=n) a l e e d d c c (λo h=>h) f g i m q)
theorem TH{A:List Tp}{z:Tp}(h:z∈rV A):∃x∈A,∃y∈A,z=x++y:=
 (gJ.mp h).elim λp a=>a.elim λb e=>
 have this:=QS b
 ⟨p.1,this.1,p.2,aRF this.2,e.symm⟩
theorem SK:∀{A:List Tp},dM 1 A->dM 2 (rV A)
 |[],_=>⟨.nil,λx c=>((by contradiction))⟩
 |[a],_=>⟨.nil,λx c=>((by contradiction))⟩
 |a::b::l,h=>by obtain⟨i,g⟩:=EV.mp h.r8;have f:=SK (A:=b::l) ⟨g,λx c=>h.f7 x<|.tail _ c⟩;refine⟨EV.mpr ⟨λz d=> ?_,f.r8⟩,λz d=>(dA.mp d).elim (λe=> ?_)<|f.f7 z⟩;obtain⟨x,c,y,k,e⟩:=TH (A:=b::l) d;rw[e];exact Vz b y ((h.f7 a<|.head _).trans (h.f7 x<|.tail _ c).symm)<|i x c;rw[e];exact(cM).trans (by rw[h.f7 a (.head _),h.f7 b<|.tail _ (.head _)])
theorem Ny:∀A:List Tp,rV A=(eW<|A.length-1).map λk=>(A[k]?).getD []++(A[k+1]?).getD []
 |[]=>rfl
 |[a]=>rfl
 |a::b::l=>by show(a++b)::rV (b::l)=(eW<|l.length+1).map _;rw[Ny (b::l),aPW,sH,kL];rfl
theorem vQ{H ext:aH}{m:Nat}(a:H.length=m):(H++ext).length=m+ext.length:=a▸cM
section
variable{C:cR}{d:Co}{K:PF}{I:List V}{L:Lc}{f p k:Nat}{x y z:V}
theorem My{l:List V}{R:PR}(a:H.length=p)(b:tC k 125959291554050015=aA f)(q:C f (.a9 p::l) (H++[.g9 k []]) (nk (λs=>R (.a9 p::s)) I L)):Gn C k l R I L H:=by unfold Gn;rw[b,a];exact q
theorem Kk(a:H.length=p)(b:tC k 125959291554050015=aA f)(q:C f [.a9 p,x] (H++[.g9 k []]) (nk (λs=>aS C d K (.a9 p::s)) I L)):aS C (.u0 k 1 d) K (x::I) L H:=My a b q
theorem VC(a:H.length=p)(b:tC k 125959291554050015=aA f)(q:C f [.a9 p,x,y] (H++[.g9 k []]) (nk (λs=>aS C d K (.a9 p::s)) I L)):aS C (.u0 k 2 d) K (y::x::I) L H:=My a b q
theorem aJB(a:H.length=p)(b:tC k 125959291554050015=aA f)(q:C f [.a9 p,x,y,z] (H++[.g9 k []]) (nk (λs=>aS C d K (.a9 p::s)) I L)):aS C (.u0 k 3 d) K (z::y::x::I) L H:=My a b q
theorem Vh{R:PR}{l:List (V×V)}(e:dY x l=aB)(q:R ((dF x l).getD y::I) L H):wU (yP 4 (.b7 l) [x,y] H) R I L:=
 .of (v:=(dF x l).getD y) (σ:=H) (by show(match dY x l with|true=>aA ((dF x l).getD y,H)|false=>aC)=_;rw[e]) q
end
theorem aNK{L:List Nm}{b:Nm->List Tp}(h:a∈L):rQ (.b7 (jJ L b)) (nm a) H=aA (cV<|b a):=
 (show qK (.b7 (jJ L b)) (nm a)=_ by dsimp only[qK];rw[show dY (nm a) (jJ L b)=aB from jT (Iw _ _)]).trans (TA h)
def LB(c:aG)(t:Bool)(d:Nat)(l:List bD)(o:Nat->Option V):Lc:=[aA (.a9 18),aA<|sZ d l,aA<|.a9 19,aA<|.a9 22,aA<|.a7 ((kB (gN c d l)<|bK c t).map .d9),aA<|.b7 (jJ (bK c t)<|cQ c t d l),aA<|.b7 (jJ (bK c t)<|iK c t d l),aA<|.a9 25,aA<|.a9 28,o 0,o 1,o 2,o 3,o 4,o 5,o 6,o 7,o 8,o 9,o 10]
theorem SP:∀{k:Nat},k<=3->Ej 0 ((k:Int)-1)=aB/\CE 0 ((k:Int)-1)=(eW<|k-1).map λk:Nat=>V.a5 (0+(k:Int))
 |0,_=>⟨rfl,rfl⟩
 |1,_=>⟨rfl,rfl⟩
 |2,_=>⟨rfl,rfl⟩
 |3,_=>⟨rfl,rfl⟩
 |_+4,h=>aZ h<|dp.mpr<|gZ<|gZ<|gZ<|gZ<|eO _
theorem Ml{L:List aX}{x:aX}{k:Nat}(h:L.length=k):gH L++[(.d9 x,.a5 (k:Nat))]=gH (L++[x]):=h▸(Wo L x).symm
end
section
variable{n:Nat}{Q:V->aH->Prop}{H J:aH}{c:aG}{t:Bool}{w:List aP}{F:List (Nat×V)}{d:Nat}{u:List bD}{z Y:List V}{Z X y:List (V×V)}{m:Nat}{a s:Nm}{I:Nm->List Tp}{L:List Nm}
theorem Ik{P:List V->Prop}{b:Type}{l:List b}{B:Cu}{L:Lc}{xs:List V}(g:b->V)(f:b->List V)(e:xs=l.map g)(h:∀a∈l,∀K:PF,Ky K L H (f a)->B (g a) K L H)(q:P (l.flatMap f)):xZ B L H xs P:=e▸eE g f h q
theorem aGL(c:aG)(l:List bD)(a:Nm)(r:Nat):(DZ c l a r= .h9/\sS c l a r=[])\/∃x,DZ c l a r=Bq x r/\sS c l a r=[.a8 [.d9 (Bw a),Bq x r]]:=by
 unfold DZ sS;cases lN l a with
 |none=>exact .inl ⟨rfl,rfl⟩
 |some x=>
  by_cases h:bY c a=aA a
  exact .inl ⟨bO h,bO h⟩;exact .inr ⟨x,bH h,bH h⟩
theorem Sv(k:SA c t w F H)(N:gT d u H)(b:a∈aY c t){r:Nat}{v:V}(e:DZ c u a r=v)(q:Q v H):WC (n+4) 2204 [.a9 19,nm a,.a5 (r:Nat)] H Q:=aEP k N b<|e▸q
theorem yh{e:_root_.Fin 4}(g:H[28]? =aA (.g9 23 (uF L I)))(v:dV L I)(m:∀a∈aY c t,∀r,bY c a=aA r->r∈L){P:aH->Prop}{j:Nat}(l:j<=3){d:List (List Nm)}(i:eU c t (j+1) d)(f:d.length<=100)
  (h:H[10]? =aA (.g9 33 kG)) (o:∀b,P b->bC c t w F b/\b[28]? =aA (.g9 23 (uF L I)))
  (k:∀{Q':V->aH->Prop},(∀b,P b->Q' (knd (j+1) d) b)->WC (n+8) 3105 [.a9 10,nm s,.d9 (dT e)] H Q') {A:List Tp} (x:gF (zR c I d)=A)
  (q:∀b,P b->Q (.a8 [.a5 (j+1:Nat),cV A]) b):WC (n+9) 2303 [.a9 28,nm s,.d9 (dT e)] H Q:=aEY g v m l i f h o k λb p=>x▸q b p
theorem aL0(h:bS c t):(dF (nm a)<|jJ (bK c t)<|iK c t d u).getD (.a8 [])=cV (xW c t d u a):=by unfold jJ xW;rw[AA (c:=nm) rS];split<;>rfl
theorem pN{C:cR}{i:Nat}{k:Co}{K:PF}{a:List V}{L:Lc}{v:V}(h:lg i L=aA v)(q:aS C k K (v::a) L H):aS C (.a0 i k) K a L H:=by show wL (lg i L) (aS C k K) a L H;rw[h];exact q
theorem CM{C:cR}{i:Nat}{k:Co}{K:PF}{a:List V}{L:Lc}{v:V}(q:aS C k K a (lp i v L) H):aS C (.b9 i k) K (v::a) L H:=q
def pR(c:aG)(t:Bool)(w:List aP)(i:Nat):List aX:=(bE c t).map iO++((bX c t w).take i).map λf=>pW f.g8 f.k
def tB(c:aG)(t:Bool)(d:Nat)(l:List bD)(w:List aP)(i:Nat):List V:=(bE c t).map (mC c t d l)++((bX c t w).take i).map (Bu c (cQ c t d l) w)
theorem aDB{i:Nat}{f:aP}(h:(bX c t w)[i]? =aA f):pR c t w (i+1)=pR c t w i++[pW f.g8 f.k]:=by unfold pR;rw[xN h,dK]
theorem rh{i:Nat}{f:aP}(h:(bX c t w)[i]? =aA f):tB c t d u w (i+1)=tB c t d u w i++[Bu c (cQ c t d u) w f]:=by unfold tB;rw[xN h,dK]
theorem Iu(i:Nat):(pR c t w i).length=(tB c t d u w i).length:=by unfold pR tB;rw[cM,cM,bP,bP,bP,bP]
theorem Sb(h:bS c t)(a:dB c t w)(i:Nat):(tB c t d u w i).length<=1000:=by unfold tB;rw[cM,bP,bP];exact lX (iR h.f7<|pD<|Bk h.nd h.i7 a) rfl
theorem aKP(h:bS c t)(d:dB c t w){i:Nat}{f:aP}(j:(bX c t w)[i]? =aA f):pW f.g8 f.k∉pR c t w i:=λb=>by
 have e:=λ{f:aP} (x:f∈bX c t w)=>(pQ h.i7 d.g8).mp x;rcases fU.mp b with b|b
 obtain⟨a,_,m⟩:=gJ.mp b;exact Tv _ _ _ m;obtain⟨g,k,l⟩:=gJ.mp b;exact xL (Cg h.nd d.nd) j<|d.v9 g (e<|QU k) f (e<|fT j) (RM l)▸k
theorem aL4(i:Nat):cD "o/next"∉pR c t w i:=λb=>by
 rcases fU.mp b with b|b
 obtain⟨a,_,e⟩:=gJ.mp b;exact(IW a).1 e;obtain⟨g,_,d⟩:=gJ.mp b;exact(IW _).2 _ d
theorem aJ0(h:bS c t)(ok:dB c t w)(hT:AU c u)(h3:∀a,gN c d u a<=3)(hl:mA c t u)(hz:H.length=19)(k:KS c t w F [] [] 800000 H)(hS:H[18]? =aA (.g9 24 JS))
  (q:∀σ',σ'.length=29->σ'[25]? =aA (.g9 16 bF)->σ'[26]? =aA (.a7 (nM c t d u w))->σ'[22]? =aA (.a7 (jK c u<|bE c t))->(∀p,p<10->σ'[p]? =H[p]?)->Q (.a8 [.a9 25,.b7 (gH<|(nM c t d u w).map xS),.a9 22]) σ'):WC (n+35) 2402 [.a9 18,sZ d u] H Q:=by
 have ks:=k.sa;have hat:(kB (gN c d u)<|bK c t).length<=30:=by rw[FR];exact aR (Qa h3 _)<|BQ 3<|aR (lA ..) h.f7
 have L:dV (bK c t) (cQ c t d u):=⟨λr=>CH ..,λr=>aR (bW<|Cv ..)<|h3 r⟩;have z1:(H++([.g9 22 (nF d),.b7 (lF u),.b7 [(nm E,.e8 aB)],.a7 []]:aH)).length=23:=vQ hz;refine wc aM3 rfl<|cL hS rfl<|pN rfl<|VC hz rfl<|aIN ks hz h.i7 hl h.e<|NU hz<|dS.of rfl<|bG (dN hS) rfl<|aHW (ks.j7 _) ⟨eQ hz 0 rfl,eQ hz 1 rfl,eQ hz 2 rfl⟩ ⟨_,dN hS,rfl⟩ h.e7 h.nd h.f7 h.N2 h.R1 hT h3<|dS.of rfl ?_;have z2:(H++([.g9 22 (nF d),.b7 (lF u),.b7 [(nm E,.e8 aB)],.a7 []]:aH)++([.g9 15 [(64092861171,.a8 ((kB (gN c d u)<|bK c t).map .d9)),(1050784625686899,.a9 24)],.b7 (gH<|kB (gN c d u)<|bK c t)]:aH)).length=25:=vQ z1;refine CM<|CM<|CM<|pN rfl<|Kk z1 rfl<|aC6 z1 (sn h3<|h.nd.filter _) (lX hat rfl)<|Kk z2 rfl<|aKH z2 ?_;have S3:(H++([.g9 22 (nF d),.b7 (lF u),.b7 [(nm E,.e8 aB)],.a7 []]:aH)++([.g9 15 [(64092861171,.a8 ((kB (gN c d u)<|bK c t).map .d9)),(1050784625686899,.a9 24)],.b7 (gH<|kB (gN c d u)<|bK c t)]:aH)++([.g9 16 bF,.a7 [],.b7 []]:aH))[18]? =aA (.g9 24 JS):=dN<|dN<|dN hS;refine cL S3 rfl<|cL S3 rfl<|pN rfl<|aJB (vQ z2) rfl<|rn (vQ z2)<|dS.of rfl ?_;have b0:BS c t w F d u H [] [] [] [] [] 800000 (H++([.g9 22 (nF d),.b7 (lF u),.b7 [(nm E,.e8 aB)],.a7 []]:aH)++([.g9 15 [(64092861171,.a8 ((kB (gN c d u)<|bK c t).map .d9)),(1050784625686899,.a9 24)],.b7 (gH<|kB (gN c d u)<|bK c t)]:aH)++([.g9 16 bF,.a7 [],.b7 []]:aH)++([.g9 23 (uF (bK c t)<|cQ c t d u)]:aH)):=
  ⟨((((k.j7 _).j7 _).j7 _).j7 _),⟨⟨_,_,dN<|dN<|eQ z1 0 rfl,bP _⟩,dN<|eQ z2 0 rfl,dN<|eQ z2 1 rfl,dN<|eQ z2 2 rfl⟩,eQ (vQ z2) 0 rfl,⟨dN<|dN<|dN<|eQ hz 0 rfl,dN<|dN<|dN<|eQ hz 1 rfl,dN<|dN<|dN<|eQ hz 2 rfl⟩,dN<|dN<|dN<|eQ hz 3 rfl,dN<|dN<|dN<|dN hS,vQ<|vQ z2,λp hp=>by have lt:∀(e:aH) k,(H++e).length=k->19<=k->p<(H++e).length:=λe k h g=>h▸cO hp (aR (bV rfl) g);rw[rC (by rw[vQ z2];exact cO hp<|bV rfl),rC (by rw[z2];exact cO hp<|bV rfl),rC (by rw[z1];exact cO hp<|bV rfl),rC (by rw[hz];exact cO hp<|bV rfl)]⟩
 refine cL b0.S rfl (bG b0.K.X.o rfl<|MK b0.K.sa<|cH.of rfl<|gR (f:=aH) 9 (λq9 q9 o=>LB c t d u o) (λq9 x=>x) (λi x=>BS c t w F d u H (jK c u<|(bE c t).take i) (((bE c t).take i).map<|mC c t d u) (gH<|((bE c t).take i).map iO) [] [] 800000 x) _ rfl rfl b0 (λi a x o K' M b hn=> ?_) λx o b=> ?_)
 ·have ha:=h.e7 a<|fT M;obtain⟨sA,sl,ss⟩:=jl (c:=c) (t:=t) (d:=d) (w:=u) h3 a;have hnn:iO a∉((bE c t).take i).map iO:=λhm=>by
   obtain⟨b,hb1,hb2⟩:=gJ.mp hm;exact xL h.nd M<|PG hb2▸hb1
  have hml:=lX (nI (c:=c) L.f7 a) (k:=10000) rfl;have tl:((bE c t).take i).length<=1000:=pD<|lX h.f7 rfl;refine bG b.B.o rfl<|wP.of rfl<|Vh (jT<|Iw _ _) ?_;rw[aL0 h];refine bG b.U rfl (YC b.K.X b.U L h.I6 ha (Oe b.B (k:=1) (bT _) sA (JL L.b9 a) (λr hr=>pP h ha r<|ss r hr) (pP h ha) (lX sl rfl) hml ss (Ip hnn) (Bt _) (by rw[Gk,bP];exact tl) (by rw[bP];exact tl) λN e q9=> ?_))
  have e3:jK c u ((bE c t).take<|i+1)=jK c u ((bE c t).take i)++sS c u a (((bE c t).take i).map<|mC c t d u).length:=by rw[tP,M,bP];exact Vl ..
  have b':BS c t w F d u H (jK c u<|(bE c t).take i) (((bE c t).take<|i+1).map<|mC c t d u) (gH<|((bE c t).take<|i+1).map iO) [] [] 800000 N:=by rw[xN M,xN M,←Ml (k:=(((bE c t).take i).map<|mC c t d u).length) (by rw[bP,bP]),e];exact b.j5
  rcases aGL c u a (((bE c t).take i).map<|mC c t d u).length with⟨e1,e2⟩|⟨x,e1,e2⟩
  rw[e2,fS]at e3;exact bG b'.N.o rfl<|Sv b'.K.sa b'.N ha e1<|cI rfl<|hn _ _ _ trivial rfl rfl<|e3▸b';refine bG b'.N.o rfl<|Sv b'.K.sa b'.N ha e1<|gL rfl<|lR b'.L rfl<|wP.of rfl<|wP.of (aNL a)<|oQ b'.L (qR<|aR (Yl ..) tl) rfl<|hn _ _ _ trivial rfl rfl ?_;rw[e3,e2];exact b'.F9
 ·rw[oO]at b;clear b0;have hlen:=Bk h.nd h.i7 ok;refine cL b.S rfl<|bG b.K.X.o rfl<|aIK b.K.sa<|cH.of rfl<|gR (f:=aH) 9 (λq9 q9 o=>LB c t d u o) (λq9 x=>x) (λi x=>BS c t w F d u H (jK c u<|bE c t) (tB c t d u w i) (gH<|pR c t w i) (wN c t w<|(bX c t w).take i) (wC<|(bX c t w).take i) (800000-i) x) _ rfl rfl ?_ (λi f x o K' M b hn=> ?_) λx o b=> ?_;show BS c t w F d u H (jK c u<|bE c t) ((bE c t).map (mC c t d u)++[]) (gH<|(bE c t).map iO++[]) [] [] 800000 _;rw[fS,fS];exact b;have hi:i<4:=cO (iU.mp M).1 hlen;have hct:=(((mD<|ok.g8 f<|(pQ h.i7 ok.g8).mp<|fT M).t0<|HX h.f7 h.e7 h.i7 ok M).x7);rw[kY 1]at hct;obtain⟨u1,u2⟩:=RN L h.f7 h.e7 h.i7 h.m8 ok M;have hm:800000-(i+1)+1=800000-i:=aRH<|BP<|cO hi<|bV rfl;refine dS.of rfl<|bG b.U rfl<|yh b.U L h.I6 (JI<|mN w f) hct.ok (lX hct.f7 rfl) b.K.K (P:=λN=>KS c t w F (wN c t w<|(bX c t w).take<|i+1) (wC<|(bX c t w).take<|i+1) (800000-(i+1)) N/\Fr x N) (λN p=>⟨p.1.X,(b.n5 p.1 p.2).U⟩) (λq=>aA1 (m:=800000-(i+1)) h.f7 h.nd h.e7 h.i7 ok M (hm▸b.K) λN k' fr=>q N ⟨k',fr⟩) u1 λN p=> ?_;have b':=b.n5 p.1 p.2;have rl:=Sb (d:=d) (u:=u) h ok i;refine dS.of rfl (bG b'.B.o rfl (wP.of rfl (wP.of rfl (wP.of (ji f.g8 f.k) (Oe b'.B (k:=sV (mN w f)+1) (gM _) (A:=[]) ⟨.nil,λx hx=>(nomatch hx)⟩ u2 (λr hr=>(nomatch hr)) (aOD h ok M) (eO _) (Yb L.f7 f) (λr hr=>(nomatch hr)) (Ip<|aKP h ok M) (Bt _) (by rw[Gk,Iu];exact rl) rl λσ3 e q9=>hn _ _ _ trivial rfl rfl ?_)))))
  rw[rh M,aDB M,←Ml (Iu i),e];exact b'.j5;have b:BS c t w F d u H (jK c u<|bE c t) (tB c t d u w (bX c t w).length) (gH<|pR c t w (bX c t w).length) (wN c t w<|(bX c t w).take (bX c t w).length) (wC<|(bX c t w).take (bX c t w).length) (800000-(bX c t w).length) x:=b;have hEt:E∈bK c t:=(h.m8 E).mpr<|.inr (.inr rfl);refine cL b.S rfl (bG b.K.X.o rfl (Yo b.K.kp b.K.k6 b.K.X.o (cH.of rfl (gR (f:=aH) (l:=[E]) (g:=λe=> .a8 [vS "o",nm e]) 9 (λq9 q9 o=>LB c t d u o) (λq9 x=>x) (λi x=>BS c t w F d u H (jK c u<|bE c t) (if i=0 then tB c t d u w (bX c t w).length else nM c t d u w) (if i=0 then gH (pR c t w (bX c t w).length)else gH (pR c t w (bX c t w).length++[cD "o/next"])) (wN c t w<|(bX c t w).take (bX c t w).length) (wC<|(bX c t w).take (bX c t w).length) (800000-(bX c t w).length) x) x rfl rfl b (λi e x o K' M b hn=> ?_) λx o b=> ?_))))
  ·induction i using fO with
   |succ=>injection M
   |zero=>
    (injection M with q_;subst q_)
    have b:BS c t w F d u H (jK c u<|bE c t) (tB c t d u w (bX c t w).length) (gH<|pR c t w (bX c t w).length) (wN c t w<|(bX c t w).take (bX c t w).length) (wC<|(bX c t w).take (bX c t w).length) (800000-(bX c t w).length) x:=b;have rl:=Sb (d:=d) (u:=u) h ok (bX c t w).length;have rw1:nM c t d u w=tB c t d u w (bX c t w).length++[VU (cQ c t d u)]:=by unfold nM tB;rw[oO]
    have hlE:=L.f7 E;have hsE:=L.b9 E;have hE:=FL (d:=d) (w:=u) h (.inr (.inr rfl)) (a:=E);have hn:=hn;refine dS.of rfl (wP.of (aNK hEt) (bG b.B.o rfl (wP.of rfl (wP.of (v:=vS "o/next") (by rfl') (wP.of (aN (λk:Nat=>aA<|V.a5 k)<|bP _)<|wP.of rfl<|wG.of (SP hlE).1<|Ik (λk:Nat=> .a5 (0+(k:Int))) (λk=>[bR (((cQ c t d u E)[k]?).getD []++((cQ c t d u E)[k+1]?).getD [])]) (SP hlE).2 (λk hk K q=> ?_) ?_)))))
    have hk1:k+1<(cQ c t d u E).length:=aRK<|qD.mp hk;have hk0:=oN hk1;rw[iA hk0,iA hk1]at q;exact wP.of (Jz (Ca _) (by rw[jW,iA hk0];rfl)) (wP.of rfl (wP.of (Jz (j:=k+1) (aN (· +1)<|Ca _) (by rw[jW,iA hk1];rfl)) (wP.of (DJ<|aR (iR (bW<|hsE.f7 _<|EY hk0)<|bW<|hsE.f7 _<|EY hk1)<|bV rfl)<|q _)))
    rw[mG,show((eW<|(cQ c t d u E).length-1).map λk=>bR<|((cQ c t d u E)[k]?).getD []++((cQ c t d u E)[k+1]?).getD [])=(rV<|cQ c t d u E).map bR by rw[Ny,kL];rfl]
    have pl:(rV<|cQ c t d u E).length<=3:=by rw[Ny,bP,pK];exact aR (pI ..) hlE
    refine wG.of (fR pl) (wP.of rfl (aJA b.B (k:=2) (gM _) (SK hsE) (λr hr x hx=> ?_) (lX pl rfl) (Ip<|aL4 _) (Bt _) (by rw[Gk,Iu];exact rl) rl λσ3 e q9=>hn _ _ _ trivial rfl rfl ?_))
    obtain⟨s,hy,C,hz,e⟩:=TH hr;exact(fU.mp<|e▸hx).elim (hE s hy x)<|hE C hz x;show BS c t w F d u H (jK c u<|bE c t) (nM c t d u w) (gH<|pR c t w (bX c t w).length++[cD "o/next"]) _ _ _ _;rw[rw1,←Ml (Iu _),e];exact b.j5
  have b:BS c t w F d u H (jK c u<|bE c t) (nM c t d u w) (gH<|pR c t w (bX c t w).length++[cD "o/next"]) (wN c t w<|(bX c t w).take (bX c t w).length) (wC<|(bX c t w).take (bX c t w).length) (800000-(bX c t w).length) x:=b;rw[show pR c t w (bX c t w).length++[cD "o/next"]=(nM c t d u w).map xS by unfold pR nM;rw[oO,gO,gO,kL,kL];rfl]at b
  exact cL b.B.o rfl (pU (iJ b.B.n) (mJ<|Bt _)<|q _ b.z b.B.o b.B.b b.L b.f)
end
def BG(a:List Nat)(k:Nat):O:= .b7 [(vS "cells",.a7 (a.map λx=> .a5 (x:Nat))),(vS "spot",.a5 (k:Nat))]
noncomputable def fI(b:Nat)(o:O):Prop:=∃a k,o=BG a k/\k+b<=300/\a.length<=60
section
variable{n b:Nat}{Q:V->aH->Prop}{r:aH}{o:O}{c:aG}{t:Bool}
theorem Cy{a:aH}{l:List V}{j:Nat}{v:V}(h:l[j]? =aA v):rQ (.a7 l) (.a5 j) a=aA v:=(JQ l j).trans h
theorem aKI{a:aH}{x m:Nat}(b:0<m):nL .Mod (.a5 x) (.a5 m) a=aA (.a5 (x % m:Nat)):=
 (mJ (v:= .a5 (Int.fmod x m))<|bne_iff_ne.mpr λe=>jQ b<|aQF.mp e).trans (aN (λi=>aA<|V.a5 i)<|(Int.fmod_eq_emod_of_nonneg _<|uT m).trans (Int.natCast_emod x m).symm)
theorem nV(z:fI (b+1) o){m:Nat}(p:0<m)(q:∀d,d<m->∀l,fI b l->Q (.a5 (d:Nat)) (l::r)):WC (n+1) 3899 [.a9 0,.a5 (m:Nat)] (o::r) Q:=by
 obtain⟨c,k,e,s,y⟩:=z;subst e;have w:fI b (BG c<|k+1):=⟨c,k+1,rfl,aR (bW (by rw[kX,kY 1])) s,y⟩
 have t:∀k:Nat,rQ (.a9 0) (vS "cells") (BG c k::r)=aA (.a7 (c.map λx=> .a5 (x:Nat))):=λk=>by rfl'
 have f:∀x:Nat,∀K:PF,(∀d:Nat,d<m->K (.b8 (.a5 d)) [aA (.a9 0),aA<|.a5 m,aA<|.a5 k] (BG c (k+1)::r))->wP (nL .Mod (.a5 x) (.a5 m) (BG c (k+1)::r)) (aS (WC n) .b8 K) [] [aA (.a9 0),aA<|.a5 m,aA<|.a5 k] (BG c (k+1)::r):=λx K h=>wP.of (aKI p)<|h _<|QX _ p;have g:k<=300:=aR (dI ..) s;refine wc aFV rfl (wP.of (v:= .a5 k) (by rfl') (wP.of rfl (tX (a:=BG c (k+1)::r) rfl (by rfl') (by rfl') (wP.of (t _)<|wP.of (aN (λk:Nat=>aA<|V.a5 k)<|bP _)<|dL (b:=aQ<|(k:Int)<c.length) rfl (λh=>wP.of (t _) ?_) λh=> ?_))))
 have i:=tK.mp<|bQ h;exact wP.of (v:= .a5 (c[k]:Nat)) (Cy (by rw[jW,iA i];rfl)) (f _ _ λd j=>q d j _ w)
 exact wP.of (NJ (a:=3) (bT 3) g rfl rfl) (wP.of (NJ (DA 3 g) g rfl rfl)<|wP.of rfl<|wP.of (v:= .a5 (3*k*k+k+2:Nat)) rfl<|f _ _ λd j=>q d j _ w)
theorem fI.H4{k m:Nat}{o:O}:fI k o->m<=k->fI m o:=λ⟨d,k,c,b,a⟩ h=>⟨d,k,c,aR (fG h _) b,a⟩
theorem fI.e7{k m:Nat}{o:O}(h:fI (k+m) o):fI k o:=h.H4<|dI ..
theorem Cm{l:List Nm}(f:0<l.length)(g:fI (b+1) o)(q:∀a,a∈l->∀c,fI b c->Q (kE<|nm a) (c::r)):WC (n+2) 4099 [.a9 0,.a7 (l.map nm)] (o::r) Q:=
 wc yo rfl (wP.of (aN (λk:Nat=>aA<|V.a5 k)<|bP _) (nV g f λd e c h=>wP.of (v:=nm<|l[d]) (Cy (by rw[jW,iA e];rfl)) (q _ (EY e) _ h)))
theorem yb{l:List Nm}(j:0<l.length)(f:∀a∈l,a∈aY c t)(x:fI (b+3) o)(q:∀ty,rN c t ty->∀i,fI b i->Q (vV ty) (i::r)):WC (n+3) 4199 [.a9 0,.a7 (l.map nm)] (o::r) Q:=by
 refine wc aOP rfl (nV (m:=8) x (gM _) λd z i v=>dL (b:=aQ<|(d:Int)<2) rfl (λh=> ?_) λh=>Cm j v λa k y s=>dL (b:=aQ<|(d:Int)<5) rfl (λh=>q (.nm a) (f a k) _<|s.e7 (m:=1)) λh=>dL (b:=aQ<|(d:Int)<7) rfl (λh=> ?_) λh=> ?_);match d,tK.mp (bQ h)with
 |0,_=>exact wP.of rfl<|q .h9 trivial _<|v.e7 (m:=2)
 |1,_=>exact wP.of rfl<|q .u8 trivial _<|v.e7 (m:=2)
 |_+2,h=>exact aZ h<|eI.mpr<|wZ ..
 exact Cm j s λg e w p=>q (.j0 aB a g) ⟨f a k,f g e⟩ _ p;exact Cm j s λg e w p=>q (.j0 aI a g) ⟨f a k,f g e⟩ _ p
def Pp:Option (_root_.Fin 4)->aX|some e=>dT e|none=>yQ
theorem aHO(a:Option (_root_.Fin 4)){b:aH}:dZ .NotEq (.d9 (Pp a)) (vS "") b=aA a.isSome:=by
 induction a using jP with
 |none=>rfl'
 |some e=>exact(bQ (by decide+kernel):∀e:_root_.Fin 4,Mo .NotEq (.d9 (dT e)) (vS "")=aA aB) e
noncomputable def aAI(c:aG)(t:Bool)(a:Option (_root_.Fin 4))(ty:Ty):Prop:=(rN c t ty/\∀e,ty≠ .l6 e)\/∃e,a=aA e/\ty= .l6 e
theorem Jj{a:aH}{C:cR}{K:PF}{k:qW}{x y:V}{A B d:Co}{g:List V}{L:Lc}{b:Bool}(P:V->Prop)(h:dZ k x y a=aA b)(t:b=aB->∀c:PF,(∀v,P v->c (.b8 v) L a)->aS C A c [] L a)(f:b=aI->∀c:PF,(∀v,P v->c (.b8 v) L a)->aS C B c [] L a)(q:∀v,P v->aS C d K (v::g) L a):wP (xR<|dZ k x y a) (aS C (.br A B)<|CD (aS C d K) g) [] L a:=
 dL h (λe=>t e _ q) λe=>f e _ q
theorem Ey{c:aH}{a b:Nat}:dZ .Eq (.a5 a) (.a5 b) c=aA (aQ<|a=b):=aN aA<|JY a b
theorem aBB{l:List Nm}(X:2<=l.length)(P:∀a∈l,a∈aY c t)(z:T∈aY c t/\U∈aY c t/\B∈aY c t){H:Option (_root_.Fin 4)}(hT:fI (b+6) o)(q:∀ty,aAI c t H ty->∀g,fI b g->Q (vV ty) (g::r)):WC (n+4) 4299 [.a9 0,.a7 (l.map nm),.d9 (Pp H)] (o::r) Q:=by
 have j:∀a∈[T,U,B],a∈aY c t:=λa i=>(dA.mp i).elim (λe=>e▸z.1) λi=>(dA.mp i).elim (λe=>e▸z.2.1) λi=>dU.mp i▸z.2.2;have s:∀{ty:Ty},rN c t ty->∀g,fI b g->Q (vV ty) (g::r):=λ{ty} h=>q ty (.inl ⟨h,λe he=>by rw[he]at h;exact h⟩)
 have K:0<l.dropLast.length:=by rw[List.length_dropLast];exact aRQ X
 have A:∀M,(eK (.a7 (l.map nm)) M).bind (Fg<|.x5 1)=aA (.a7 (l.dropLast.map nm)):=λM=>by show aA (V.a7<|(l.map nm).take<|(l.map nm).length-1)=_;rw[←List.dropLast_eq_take,List.map_dropLast]
 have h4:∀{g},fI (b+5) g->∀(Q':V->aH->Prop),(∀ty,rN c t ty->∀g,fI (b+2) g->Q' (vV ty) (g::r))->WC (n+3) 4199 [.a9 0,.a7 (l.map nm)] (g::r) Q':=λw Q' q=>yb (oN X) P w q;refine wc pz rfl<|nV (m:=6) hT (gM _) λd Y g w=>dL (Ey (b:=1)) (λh=>dL (aHO H) (λh2=>mI ?_) λh2=>fQ<|gL (Ss (b:=2)<|bQ h▸jY 1)<|h4 w _ λty J N C=>s J _<|C.e7 (m:=2)) λh=>fQ<|dL (b:=aQ<|(d:Int)<2) rfl (λh=>h4 w _ λty J N C=>s J _<|C.e7 (m:=2)) λh=> ?_;induction H using jP with
 |none=>injection h2
 |some e=>exact q (.l6 e) (.inr ⟨e,rfl,rfl⟩) _<|w.e7 (m:=5)
 refine Jj (λv=>∃F:List Nm,v= .a7 (F.map nm)/\0<F.length/\∀a∈F,a∈aY c t) (Ey (b:=5)) (λq9 K' q=>q _ ⟨[T,U,B],rfl,gM _,j⟩) (λq9 K' q=>wP.of (A _)<|q _ ⟨l.dropLast,rfl,K,λa i=>P a<|(List.dropLast_sublist l).subset i⟩) λv ⟨F,e,Z,f⟩=> ?_;subst e;refine Cm Z w λa i N C=>Cm Z C λp k o3 L=>dL (b:=aQ<|(d:Int)<4) rfl (λh=>s (ty:= .r9 a p) ⟨f a i,f p k⟩ _<|L.e7 (m:=3)) λh=>dL (Ey (b:=4)) (λh=> ?_) λh=> ?_;exact Cm (l:=[T,U,B]) (gM _) L λx hx o4 I=>Cm (l:=[T,U,B]) (gM _) I λy hy o5 T5=>s (ty:= .v2 a p x y) ⟨⟨f a i,f p k⟩,j x hx,j y hy⟩ _<|T5.e7 (m:=1);refine nV (m:=2) L (gM _) λd Y o4 I=> ?_;match d,Y with
 |0,_=>exact wP.of rfl<|s (ty:= .u6 aI a p) ⟨z.2.2,f a i,f p k⟩ _<|I.e7 (m:=2)
 |1,_=>exact wP.of rfl<|s (ty:= .u6 aB a p) ⟨z.2.2,f a i,f p k⟩ _<|I.e7 (m:=2)
 |_+2,h=>exact aZ h<|eI.mpr<|wZ ..
end
def qG(f:aP):V:= .a8 [nm f.g8,.d9 (dT f.k),f.u7]
structure FI(c:aG)(t:Bool)(u:List aP)(m:Nat):Prop where
 r8:u.Pairwise λf g=>f.k.val<g.k.val
 lt:∀f∈u,f.k.val<m
 g8:∀f∈u,f.g8∈aY c t
 ty:∀f∈u,(∀e,f.ty≠ .l6 e)->rN c t f.ty
 l6:∀f∈u,∀e,f.ty= .l6 e->∃g,LH [g,f] u/\g.k=e/\g.g8=f.g8/\∀e,g.ty≠ .l6 e
theorem aE2{a:aH}:∀(i:Nat) (h:i<4),nL .Add (.d9 (cD "f")) (.d9 (sX (i:Nat))) a=aA (.d9 (dT ⟨i,h⟩))
 |0,_=>by rfl'
 |1,_=>by rfl'
 |2,_=>by rfl'
 |3,_=>by rfl'
 |_+4,h=>aZ h<|eI.mpr<|wZ ..
section
variable{n b m:Nat}{Q:V->aH->Prop}{r:aH}{o:O}{c:aG}{t:Bool}{u:List aP}
theorem FI.t8:FI c t [] m:=⟨.nil,λa h=>(nomatch h),λa h=>(nomatch h),λa h=>(nomatch h),λa h=>(nomatch h)⟩
theorem FI.nd(h:FI c t u m):u.Nodup:=h.r8.imp λ{a b} h (e:a=b)=>lU h (aN (·.k.val) e)
theorem FI.up(h:FI c t u m):FI c t u (m+1):={h with lt:=λf a=>zG<|h.lt f a}
theorem Su{g f:aP}{s:Nm}(a:LH [g,f] u)(c:(g.g8==s)=aB)(b:(f.g8==s)=aB):LH [g,f] (u.filter λf=>f.g8==s):=by have:=a.filter<|λf=>f.g8==s;rwa[LD,bO c,LD,bO b,List.filter_nil]at this
theorem FI.P5(h:FI c t u m){s:Nm}{g:aP}{l:List aP}(e:u.filter (λf=>f.g8==s)=g::l):∀e,g.ty≠ .l6 e:=λq o=>by
 obtain⟨i,b⟩:=jA.mp (e▸ .head _:g∈u.filter λf=>f.g8==s);obtain⟨v,n,_,d,_⟩:=h.l6 g i q o;have a:=Su n (d.symm▸b) b;rw[e]at a;have k:=(EX.mp (e▸h.nd.filter _:(g::l).Nodup)).1;rcases aU4.mp a with j|⟨r,j,p⟩
 exact k (j.subset<|.tail _ (.head _));exact k<|p.subset<|(BM j).2▸ .head _
theorem FI.j5(h:FI c t u m){f:aP}(k:f.k.val=m)(o:f.g8∈aY c t)(p:∀(_:∀e,f.ty≠ .l6 e),rN c t f.ty)(q:∀e,f.ty= .l6 e->∃g l,u.filter (λx=>x.g8==f.g8)=g::l/\g.k=e):FI c t (u++[f]) (m+1):=by
 have b:∀{P:aP->Prop},(∀x∈u,P x)->P f->∀x∈u++[f],P x:=λi j x a=>(fU.mp a).elim (i x) λa=>dU.mp a▸j;refine⟨pZ.mpr ⟨h.r8,Dm _ _,λx a y n=>by rw[dU.mp n,k];exact h.lt x a⟩,b (λx a=>zG<|h.lt x a)<|k▸jY _,b h.g8 o,b h.ty p,b (λx a e d=> ?_) λe d=> ?_⟩
 obtain⟨g,i,j⟩:=h.l6 x a e d;exact⟨g,i.trans<|aU5 _ _,j⟩;obtain⟨g,l,i,j⟩:=q e d;obtain⟨s,r⟩:=jA.mp (i▸ .head _:g∈u.filter λx=>x.g8==f.g8);exact⟨g,(List.singleton_sublist.mpr s).append<|aW1 [f],j,beq_iff_eq.mp r,h.P5 i⟩
theorem TD{c:Type}{g f:c}:∀{l:List c},LH [g,f] l->∃j i:Nat,j<i/\l[j]? =aA g/\l[i]? =aA f
 |[],h=>nomatch h
 |a::l,h=>by
  rcases aU4.mp h with b|⟨r,b,m⟩
  obtain⟨j,i,h,k,e⟩:=TD b;exact⟨j+1,i+1,fk h,k,e⟩;obtain⟨p,o⟩:=BM b;have n:f∈r:=o▸List.Mem.head _;obtain⟨i,d⟩:=wT.mp<|m.subset n;exact⟨0,i+1,gM _,aN aA p.symm,d⟩
theorem Yc{f g:aP}:∀{u:List aP},(u.Pairwise λf g=>f.k.val<g.k.val)->f∈u->g∈u->f.k=g.k->f=g
 |[],_,h,_,_=>nomatch h
 |a::l,h,c,b,e=>by
  obtain⟨d,k⟩:=EV.mp h;rcases dA.mp c with j|c<;>rcases dA.mp b with i|b
  exact j.trans i.symm;exact aZ (d g b) (by rw[←e,j];exact rH _)
  exact aZ (d f c) (by rw[e,i];exact rH _)
  exact Yc k c b e
theorem xz{b:Type}{l:List b}{i j:Nat}{a:b}(c:l.Nodup)(e:l[i]? =aA a)(d:l[j]? =aA a):i=j:=
 (iU.mp e).elim λg k=>
 (iU.mp d).elim λf h=>
 (List.getElem_inj (h₀:=g) (h₁:=f) c).mp (k.trans h.symm)
theorem XE:∀k:_root_.Fin 4,k∈[0,1,2,3]:=by decide+kernel
theorem FI.m0(A:(bE c t).Nodup)(x:∀a∈aY c t,a∈bE c t)(h:FI c t u m):dB c t u:=by
 refine⟨λf n g H=>Yc h.r8 n H,h.nd,h.g8,h.ty,λi f e y o=> ?_,?_⟩;have n:=(pQ x h.g8).mp<|fT y;obtain⟨g,z,C,l,s⟩:=h.l6 f n e o;have d:LH [g,f] (bX c t u):=by obtain⟨p,q,r⟩:=aU6<|x _<|h.g8 f n;unfold bX;rw[r,LF,EW];exact(Su z (l▸lW _)<|lW _).trans<|(aU5 _ _).trans<|List.sublist_append_right _ _
 obtain⟨j,K,v,F,w⟩:=TD d;exact⟨j,g,xz (Cg A h.nd) w y▸v,F,C,l,s⟩;have I:(u.map (·.k)).Nodup:=AE.mpr<|h.r8.imp λ{a b} h (e:a.k=b.k)=>lU h<|aN _root_.Fin.val e;exact(bP (as:=u) (·.k))▸PS I (m:=[0,1,2,3]) λk J=>XE k
noncomputable def tyE:Ty->_root_.Fin 4| .l6 e=>e|_=>0
theorem im{a:aH}(i:Int):iX 7 (.a5 i) a=gI (nT i) (.d9 (sX i)):=rfl
theorem Tc{a:aH}{i:Int}{j:Nat}(e:i=j)(h:nT j=aB):iX 7 (.a5 i) a=aA (.d9 (sX j)):=by subst e;exact(im _).trans<|mJ h
theorem aAT(hnd:(bE c t).Nodup)(ho:∀a∈aY c t,a∈bE c t){l:List Nm}(hl:2<=l.length)(hs:∀a∈l,a∈aY c t)(hf:T∈aY c t/\U∈aY c t/\B∈aY c t){X:O}(hT:fI (b+41) o)(q:∀u,FI c t u 4->∀y,fI b y->Q (.a9 2) [y,X,.a7 (u.map qG)]):WC (n+5) 4399 [.a9 0,.a7 (l.map nm)] [o,X] Q:=by
 refine wc yt rfl (nV (b:=b+40) (r:=[X,.a7 []]) (m:=4) hT (gM _) λd H y C=>wP.of rfl<|wG.of (BH (a:=0) (b:=1+d) (eO _)<|aR (fG (dR H) 1)<|bV rfl)<|gR (l:=eW<|1+d) (g:=λk:Nat=> .a5 (0+(k:Int))) 3 (λY Y o=>[aA (.a9 0),aA<|.a7 (l.map nm),aA<|.a9 2,o 0,o 1,o 2]) (λY (x:O×List aP)=>[x.1,X,.a7 (x.2.map qG)]) (λi x=>(∀j,j+i<=4->fI (b+10*j) x.1)/\FI c t x.2 i) (y,[]) rfl rfl ⟨λj hj=>C.H4<|fG (DA 10 hj) b,.t8⟩ (λi k ⟨y,u⟩ ow K' F ⟨C,I⟩ hn=> ?_) λ⟨y,u⟩ ow ⟨C,I⟩=> ?_);obtain⟨J,h3⟩:=iU.mp F;rw[pK]at J;rw[QY]at h3;subst h3;have F:i<4:=cO J<|kY 1 d▸H;obtain⟨j,hj⟩:=Ly<|gW F;have N:∀z,z+(i+1)<=4->z<=j:=λz h=>er (a:=i) (by rw[←hj,kY];exact BZ h)
 have C:fI (b+10*j+10) y:=C (j+1) (bW (by rw[BY,kY j,←hj]))
 have P:u.length<=4:=(I.m0 hnd ho).f7;refine wP.of (aN (λk:Nat=>aA<|V.a5 k)<|bP _) (nV (b:=b+10*j+9) C (oN hl) λd H o4 T4=>wP.of (v:=nm<|l[d]) (Cy (by rw[jW,iA H];rfl)) ?_)
 have M:=hs _<|EY H;generalize l[d]=s at M;refine cH.of (Bs (p:=2) rfl)<|eE qG (λf=>jE (f.g8==s)<|.d9 (dT f.k)) (λf hf K q=>wP.of rfl<|dL (b:=f.g8==s) (aN aA<|zM _ _) (λe=>wP.of rfl ?_) λe=> ?_) ?_;rw[e]at q;exact q _;rw[e]at q;exact q _;rw[mP];have L:(u.filter λf=>f.g8==s).length<=4:=aR (lA ..) P;refine wG.of (fR L) ?_;generalize hw:(u.filter λf=>f.g8==s)=w at L;refine wP.of (aN (λk:Nat=>aA<|V.a5 k)<|bP _)<|dL (b:=aQ<|(w.length:Int)<2) rfl (λh=>lR (p:=2) rfl rfl<|wP.of (Tc (Ca _)<|GB (dR F) rfl)<|wP.of (aE2 i F) ?_) λh=>hn (o4,u) _ _ trivial rfl rfl ⟨λz A=>T4.H4<|aR (fG (DA 10<|N z A) b)<|dI ..,I.up⟩;refine Jj (λv=>v= .d9 (Pp<|w.head?.map aP.k)) (MF _) (λh K' q=> ?_) (λh K' q=> ?_) λv e=> ?_;induction w using bM with
 |nil=>cases h
 |cons g r=>exact wP.of rfl<|q _ rfl
 induction w using bM with
 |nil=>exact q _ rfl
 |cons g r=>injection h
 subst e;refine aBB (b:=b+10*j+3) hl hs hf T4 λty Z o5 T5=>oQ (p:=2) rfl (qR<|aR (bW<|bP _) P) rfl (hn (o5,u++[⟨s,⟨i,F⟩,ty⟩]) _ _ trivial rfl ?_ ⟨λz A=>T5.H4<|aR (fG (DA 10<|N z A) b)<|dI ..,I.j5 rfl M (λhne=>Z.elim (·.1) λh2_=>h2_.elim λe h1_=>h1_.elim λY J=>aZ J<|hne e) λe he=> ?_⟩);rw[gO];rfl;rcases Z with Z|⟨e',h1,J⟩
 exact aZ he (Z.2 e);induction w using bM with
 |nil=>injection h1
 |cons g l'=>exact⟨g,l',hw,(aV h1).trans<|aN tyE<|J.symm.trans he⟩
 exact q u {I with lt:=λf Y=>f.k.isLt} _ (C 0 (by rw[jH,pK,kY];exact H))
end
def Aq(c:aG)(a:Nm):V:= .a8 [sR c a,Ay c a,.e8 (CJ a),c.t7 a]
def fF(c:aG)(l:List Nm):List (V×V):=l.map λa=>(nm a,Aq c a)
structure PD(P:aG->Prop)(L:List Nm)(D:List (V×V)):Prop where
 h:∀c,P c->D=fF c L
 ex:∃c,P c
theorem uH(c:aG)(l:List Nm):(fF c l).all (λp=>iC p.1)=aB:=Bg (λa=>rfl) _
theorem PD.w3{P g:aG->Prop}{L:List Nm}{D:List (V×V)}(h:PD P L D){a:Nm}{v:V}{o:O}{R:PR}{i:List V}{l:Lc}(t:a∉L)(u:L.length<=20)(n:∀c,g c->P c/\v=Aq c a)(y:∃c,g c)(q:∀m,PD g (L++[a]) m->R i l [o,.b7 m]):wS (El (.a9 1) (nm a) v [o,.b7 D]) R i l:=by
 obtain⟨f,j⟩:=h.ex;have d:∀c,∀p∈fF c L,cN p.1 (nm a)=aI:=λc=>nA.mpr λb s=>(rS _ _).trans<|fM λe=>t<|e▸s;refine tX (p:=1) rfl (pV (jT<|h.h f j▸uH f L) (qR (k:=D.length) (by rw[h.h f j];exact aR (bW<|bP _) u))) rfl (q _ ⟨λc r=> ?_,y⟩)
 obtain⟨x,w⟩:=n c r;rw[h.h c x,xG<|d c,w];exact(show fF c (L++[a])=fF c L++[(nm a,Aq c a)]from gO ..).symm
theorem TL{c:aH}{C:cR}{K:PF}{k:qW}{x y:V}{A B d:Co}{L:Lc}{b:Bool}(P:aH->Prop)(h:dZ k x y c=aA b)(t:b=aB->∀g:PF,(∀a,P a->g .e9 L a)->aS C A g [] L c)(f:b=aI->∀g:PF,(∀a,P a->g .e9 L a)->aS C B g [] L c)(q:∀a,P a->aS C d K [] L a):wP (xR<|dZ k x y c) (aS C (.br A B)<|rU (aS C d K) K) [] L c:=
 dL h (λe=>t e _ q) λe=>f e _ q
noncomputable def c4(m:_root_.Fin 4)(a:Bool)(s:_root_.Fin 5)(r:_root_.Fin 3):aG:=⟨m,aI,a,aI,s,r⟩
theorem qs:∀(d:Nat) (h:d<4),[vS "",vS "some",vS "lone",vS "one"][d]? =aA ((c4 ⟨d,h⟩ aI 0 0).t7 T)
 |0,_=>rfl
 |1,_=>rfl
 |2,_=>rfl
 |3,_=>rfl
 |_+4,h=>aZ h<|eI.mpr<|wZ ..
theorem aC4:∀(d:Nat) (h:d<2),[vS "T",vS "U"][d]? =aA (sR (c4 0 (aQ<|d=1) 0 0) B)
 |0,_=>rfl
 |1,_=>rfl
 |_+2,h=>aZ h<|eI.mpr<|wZ ..
theorem aBF:∀(d:Nat) (h:d<5),[V.a8 [vS "T",vS "U"],.a8 [vS "B"],.a8 [vS "E0",vS "U"],.a8 [vS "T",vS "E"],.a8 [vS "U"]][d]? =aA (Ay (c4 0 aI ⟨d,h⟩ 0) S)
 |0,_=>rfl
 |1,_=>rfl
 |2,_=>rfl
 |3,_=>rfl
 |4,_=>rfl
 |_+5,h=>aZ h<|eI.mpr<|wZ ..
theorem vi:∀(d:Nat) (h:d<3),[V.a8 [vS "S"],.a8 [vS "S",vS "U"],.a8 [vS "E1",vS "S"]][d]? =aA (Ay (c4 0 aI 0 ⟨d,h⟩) R)
 |0,_=>rfl
 |1,_=>rfl
 |2,_=>rfl
 |_+3,h=>aZ h<|eI.mpr<|wZ ..
noncomputable def eN:Nat->Nm|0=>E0|1=>E1|_=>E2
theorem vn{a:aH}:∀(i:Nat),i<3->nL .Add (vS "E") (.d9 (sX (i:Nat))) a=aA (nm<|eN i)/\[E0,E1,E2][i]? =aA (eN i)/\eN i∉[T,U,E]++[E0,E1,E2].take i
 |0,_=>⟨by rfl',rfl,by decide+kernel⟩
 |1,_=>⟨by rfl',rfl,by decide+kernel⟩
 |2,_=>⟨by rfl',rfl,by decide+kernel⟩
 |_+3,h=>aZ h<|eI.mpr<|wZ ..
noncomputable def Nb(x:Bool):List Nm:=[T,U,E,E0,E1]++if x then [E2]else []
def Jv(x y:Bool):List Nm:=Nb x++[B]++if y then [D]else []
theorem tc(c:aG)(i:Nat):V.a8 [vS "E",.a8 [],.e8 aI,vS "one"]=Aq c (eN i):=by
 match i with
 |0=>rfl
 |1=>rfl
 |_+2=>rfl
section
variable{n b:Nat}{Q:V->aH->Prop}{r:aH}{o:O}
theorem aO9(hT:fI (b+7) o)(q:∀(c:aG),∀Z,fI b Z->Q (.a9 1) [Z,.b7 (fF c c.i0)]):WC (n+3) 3999 [.a9 0] [o] Q:=by
 refine wc wo rfl (nV (m:=4) hT (gM _) λf d o1 T1=>wP.of (Cy<|qs f d) (wP.of (v:= .b7 [(vS "T",.a8 [vS "",.a8 [],.e8 aI,(c4 ⟨f,d⟩ aI 0 0).t7 T]),(vS "U",.a8 [vS "",.a8 [],.e8 aI,vS ""])]) (by rfl') ?_))
 have N:PD (λc=>c.mT=⟨f,d⟩) [T,U] [(vS "T",.a8 [vS "",.a8 [],.e8 aI,(c4 ⟨f,d⟩ aI 0 0).t7 T]),(vS "U",.a8 [vS "",.a8 [],.e8 aI,vS ""])]:=⟨λ⟨m,nE,X,hD,s,r⟩ e=>by have e:m=⟨f,d⟩:=e;subst e;rfl',⟨c4 ⟨f,d⟩ aI 0 0,rfl⟩⟩
 refine N.w3 (a:=E) (g:=λc=>c.mT=⟨f,d⟩) (by decide+kernel) (bV rfl) (λc j=>⟨j,rfl⟩) N.ex λD1 p1=> ?_
 clear N;refine nV (m:=2) T1 (gM _) λA M Y T2=>wP.of rfl<|wG.of (BH (a:=0) (b:=2+A) (eO _)<|aR (fG (dR M) 2)<|bV rfl)<|gR (l:=eW<|2+A) (g:=λk:Nat=> .a5 (0+(k:Int))) 2 (λC C o=>[aA (.a9 0),aA<|.a9 1,o 0,o 1]) (λC x=>[Y,.b7 x]) (λi x=>PD (λc=>c.mT=⟨f,d⟩) ([T,U,E]++[E0,E1,E2].take i) x) D1 rfl rfl p1 (λi k D ow K' H p hn=> ?_) λD ow p=> ?_;obtain⟨I,L⟩:=iU.mp H;rw[pK]at I;rw[QY]at L;subst L;have H:i<3:=cO I<|fG (gW M) 2;obtain⟨e1,e2,e3⟩:=vn (a:=[Y,.b7 D]) i H;exact wP.of (Tc (Ca _)<|GB (dR H) rfl) (wP.of e1 (p.w3 (g:=λc=>c.mT=⟨f,d⟩) e3 (aR (bW cM)<|aR (fG (KW ..) 3)<|bV rfl) (λc j=>⟨j,tc c i⟩) p.ex λD' p'=>hn D' _ _ trivial rfl rfl (by rw[tP,e2,←dK];exact p')))
 rw[pK]at p;have p:PD (λc=>c.mT=⟨f,d⟩) (Nb<|aQ<|A=1) D:=by
  match A,M with
  |0,_=>exact p
  |1,_=>exact p
  |_+2,h=>exact aZ h<|eI.mpr<|wZ ..
 generalize aQ (A=1)=x at p;refine nV (m:=2) T2 (gM _) λt I o3 T3=>wP.of (Cy<|aC4 t I) (p.w3 (a:=B) (g:=λc=>c.mT=⟨f,d⟩/\c.bU=aQ (t=1)) (by cases x<;>decide+kernel) (by cases x<;>exact bV rfl) (λ⟨m,nE,X,hD,s,r⟩ j=>⟨j.1,?_⟩) ⟨c4 ⟨f,d⟩ (aQ<|t=1) 0 0,rfl,rfl⟩ λD2 F=> ?_)
 have e:X=aQ (t=1):=j.2;subst e;rfl;clear p;refine nV (m:=2) T3 (gM _) λd4 L o4 T4=>TL (λz=>∃y D,z=[o4,.b7 D]/\PD (λc=>c.mT=⟨f,d⟩/\c.bU=aQ (t=1)) (Jv x y) D) (Ey (b:=1)) (λC K' q=>F.w3 (a:=Nm.D) (g:=λc=>c.mT=⟨f,d⟩/\c.bU=aQ (t=1)) (by cases x<;>decide+kernel) (by cases x<;>exact bV rfl) (λc j=>⟨j,rfl⟩) F.ex λD3 J=>q _ ⟨aB,D3,rfl,J⟩) (λC K' q=>q _ ⟨aI,D2,rfl,by unfold Jv;rw[bH cC,fS];exact F⟩) λz ⟨y,D,e,p⟩=> ?_
 subst e;clear F;refine nV (m:=5) T4 (gM _) λw u o5 T5=>wP.of (Cy<|aBF w u) (p.w3 (a:=S) (g:=λc=>c.mT=⟨f,d⟩/\c.bU=aQ (t=1)/\c.s=⟨w,u⟩) (by cases x<;>cases y<;>decide+kernel) (by cases x<;>cases y<;>exact bV rfl) (λ⟨m,nE,X,hD,s,r⟩ j=>⟨⟨j.1,j.2.1⟩,?_⟩) ⟨c4 ⟨f,d⟩ (aQ<|t=1) ⟨w,u⟩ 0,rfl,rfl,rfl⟩ λD3 J=> ?_)
 have e:s=⟨w,u⟩:=j.2.2;subst e;rfl;refine nV (m:=3) T5 (gM _) λP K o6 T6=>wP.of (Cy<|vi P K) (J.w3 (a:=R) (g:=λc=>c=⟨⟨f,d⟩,x,aQ<|t=1,y,⟨w,u⟩,⟨P,K⟩⟩) (by cases x<;>cases y<;>decide+kernel) (by cases x<;>cases y<;>exact bV rfl) (λc j=>j▸⟨⟨rfl,rfl,rfl⟩,rfl⟩) ⟨_,rfl⟩ λD4 p4=> ?_)
 have e:=p4.h _ rfl;subst e;have e:Jv x y++[S]++[R]=aG.i0 ⟨⟨f,d⟩,x,aQ<|t=1,y,⟨w,u⟩,⟨P,K⟩⟩:=by unfold Jv Nb;rw[dK (_++_)];rfl
 rw[e];exact q _ _<|T6.e7 (m:=1)
end
def tW:V:= .a8 [vS "open",.a5 0,vS "util/ordering",.a8 [vS "E"],vS "o"]
theorem Tf{c:aG}{l:List Nm}{a:Nm}(h:a∈l):dF (nm a) (fF c l)=aA (Aq c a):=by unfold fF;rw[AA rS,bO h]
theorem xQ{u:aH}{p:Nat}{c:aG}{l:List Nm}{a:Nm}(g:u[p]? =aA (.b7 (fF c l)))(h:a∈l):rQ (.a9 p) (nm a) u=aA (Aq c a):=by
 unfold rQ;rw[iJ g];show(match dY (nm a) (fF c l)with|true=>dF (nm a) (fF c l)|false=>aC)=_
 rw[show dY (nm a) (fF c l)=aB from jT (uH ..)];exact Tf h
theorem GW(c:aG)(l:List Nm):(fF c l).map (λp=>p.1)=l.map nm:=by unfold fF;rw[kL];rfl
theorem aA4(c:aG):c.i0.length<=10:=bQ (He (λc=>aQ<|c.i0.length<=10) (λa=>rfl) (by decide+kernel) c)
noncomputable def pv:Nat->V->Bool
 |0,_=>aI
 |k+1,v=>match v with
  | .a9 _=>aI
  | .a8 l=>l.all<|pv k
  | .a7 l=>l.all<|pv k
  | .b7 l=>l.all λp=>pv k p.2
  |_=>aB
theorem JC{u:aH}{n:Nat}:∀(k:Nat) (v:V),pv k v=aB->gG u n k v=aA v
 |0,_,h=>nomatch h
 |k+1,v,h=>by
  induction v using V.casesOn with
  |a9 p=>injection h
  |a8 l=>exact aN (hV V.a8)<|Bd λx a=>JC k x<|cX.mp h x a
  |a7 l=>exact aN (hV V.a7)<|Bd λx a=>JC k x<|cX.mp h x a
  |b7 l=>exact aN (hV V.b7)<|PK λx a=>JC k x.2<|cX.mp h x a
  |_=>rfl
theorem PV{b:Type}{g:b->V}{k:Nat}(h:∀a,pv k (g a)=aB)(l:List b):(l.map g).all (pv k)=aB:=by rw[qZ];exact cX.mpr λa c=>h a
theorem yg(c:aG)(a:Nm):pv 10 (c.t7 a)=aB:=c.casesOn λm b b b b b=>by
 induction a using Nm.casesOn with
 |T=>exact(show ∀m:Fin 4,pv 10 (aG.t7 ⟨m,aB,aB,aB,0,0⟩ T)=aB by decide+kernel) m
 |_=>rfl
theorem VR(ty:Ty):pv 8 (vV ty)=aB:=by
 induction ty with
 |j0 b=>cases b<;>rfl
 |u6 a=>cases a<;>rfl
 |_=>rfl
def KB(f:aP):V:= .a8 [.a5 0,.e8 aI,.a8 [.d9 (dT f.k)],vS "set",f.u7]
theorem aBJ(f:aP):pv 9 (KB f)=aB:=by show(pv 8 f.u7&&aB)=aB;rw[show pv 8 f.u7=aB from VR f.ty];rfl
theorem aD8(c:aG)(s:List aP)(a:Nm):pv 11 (mE c s a)=aB:=by show(pv 10 (c.t7 a)&&(((c.i7 a).map nm).all (pv 9)&&(((s.filter λf=>f.g8==a).map KB).all (pv 9)&&(aB&&aB))))=aB;rw[yg,PV λb=>rfl,PV aBJ];rfl
theorem YK(c:aG)(s:List aP)(l:List Nm):pv 12 (.a7 (l.map (mE c s)++[tW]))=aB:=by show(l.map (mE c s)++[tW]).all (pv 11)=aB;rw[bq,PV<|aD8 c s];rfl
theorem OG{u:aH}{n k j:Nat}{v:V}(h:pv k v=aB)(b:k<=j):gG u n j v=aA v:=by
 have d:∀k j v,pv k v=aB->k<=j->pv j v=aB:=by
  intro k;induction k with
  |zero=>intro j v h;injection h
  |succ k c=>
   intro j v h b;induction j using fO with
   |zero=>exact aZ b<|aQ8 k
   |succ j=>
    have m:=BZ b;induction v using V.casesOn with
    |a9 p=>injection h
    |a8 l=>exact cX.mpr λx a=>c j x (cX.mp h x a) m
    |a7 l=>exact cX.mpr λx a=>c j x (cX.mp h x a) m
    |b7 l=>exact cX.mpr λx a=>c j x.2 (cX.mp h x a) m
    |_=>rfl
 exact JC j v (d k j v h b)
section
variable{n b:Nat}{Q:V->aH->Prop}{r:aH}{o:O}{c:aG}{t:Bool}{s:List aP}
theorem aEH(k:s.length<=4)(q:Q (.a7 ((aY c t).map (mE c s)++[tW])) [o,.b7 (fF c c.i0),.a7 (s.map qG)]):WC (n+1) 4999 [.a9 1,.a9 2,.e8 t] [o,.b7 (fF c c.i0),.a7 (s.map qG)] Q:=by
 have h:=aA4 c;have g:∀(u:aH) (v:V) (l:List Nm),l.length<=10->eK v u=aA (.a7 (l.map<|mE c s))->nL .Add v (.a7 [tW]) u=aA (.a7 (l.map (mE c s)++[tW])):=λu v l y w=>aH0 w rfl (mJ (cU (vW (m:=11) (by rw[cM,bP];exact gZ y))))
 refine wc qh rfl (cH.of (src:= .b7 1) (l:=c.i0.map nm) (GW c c.i0▸MV (p:=1) rfl (uH ..))<|gR (f:=Unit) 4 (λd d o=>[aA (.a9 1),aA<|.a9 2,aA<|.e8 t,aA<|.a9 3,o 0,o 1,o 2,o 3,o 4,o 5]) (λi d=>[o,.b7 (fF c c.i0),.a7 (s.map qG),.a7 ((c.i0.take i).map<|mE c s)]) (λd d=>True) () rfl rfl trivial (λi a d r F j d x=> ?_) λd r d=> ?_);have C:=fT j;refine wP.of (xQ (p:=1) rfl C)<|dS.of rfl<|cH.of (Bs (p:=2) rfl)<|eE qG (λf=>jE (f.g8==a)<|KB f) (λf k K q=>wP.of rfl<|dL (b:=f.g8==a) (aN aA<|zM _ _) (λe=>wP.of rfl<|wP.of rfl ?_) λe=> ?_) ?_;rw[e]at q;exact q _;rw[e]at q;exact q _;rw[mP];refine wG.of (fR<|aR (lA ..) k)<|wP.of rfl<|lR (p:=3) rfl rfl<|oQ (p:=3) rfl (yH<|pD h) rfl<|x () _ _ ⟨fF c c.i0,rfl,uH ..,GW ..⟩ rfl ?_ trivial;rw[xN j];rfl;rw[oO];induction t using eT with
 |false=>exact fQ<|wP.of (g _ _ _ h rfl)<|Ys (ext:=[_]) (OG (YK c s c.i0)<|bV rfl) q
 |true=>refine mI<|wP.of rfl<|wP.of (g _ _ (aY c aB) (DS c aB)<|aN (λl=>aA<|V.a7 l) (aU7 ..).symm)<|Ys (ext:=[_]) (OG (YK c s _)<|bV rfl) q
end
noncomputable def cfgP(t:Bool)(c:aG):Prop:=
 ((bE c t).length<=10/\(bE c t).Nodup/\(∀a∈bE c t,a∈aY c t)/\∀a∈aY c t,a∈bE c t)
  /\(∀a∈yK,match bY c a with|none=>True|some r=>(r=T\/r=U\/r=E)/\r∈bK c t)/\(∀a∈yK,a∈bK c t↔a=T\/a=U\/a=E)/\(Bb c t E=[E0,E1]++(if c.nE then [E2]else [])\/Bb c t E=(([E0,E1]++(if c.nE then [E2]else [])):List Nm).reverse)/\E∈aY c t
  /\(T∈aY c t/\U∈aY c t/\B∈aY c t)/\(aY c t).Nodup/\(vJ (fD c) 20 []<|aY c t).isSome=aB
noncomputable instance (t:Bool) (c:aG):Decidable (cfgP t c):=by
 have:∀a,Decidable (match bY c a with|none=>True|some r=>(r=T\/r=U\/r=E)/\r∈bK c t):=λa=>by split<;>infer_instance
 unfold cfgP;infer_instance
theorem Id(c:aG)(t:Bool):cfgP t c:=bQ (He (λc=>aQ<|cfgP t c) (λc=>by cases c;rfl') (cX.mp (by decide+kernel:(bs.all λt=>cfgL.all λc=>decide<|cfgP t c)=true) t (Ig t)) c)
theorem qH(c:aG)(t:Bool):bS c t:=
 (Id c t).elim λi f=>i.elim λx h=>h.elim λw g=>g.elim λv q=>f.elim λj e=>e.elim λp d=>d.elim λo b=>b.elim λn k=>
 ⟨x,w,v,q,λa m=>by have:=j a<|GF a;rw[m]at this;exact this.1,λa=>p a<|GF a,λa k r l=>by have:=j a<|GF a;rw[l]at this;exact this.2,o,n⟩
theorem tj(c:aG)(t:Bool):T∈aY c t/\U∈aY c t/\B∈aY c t:=(Id c t).2.2.2.2.2.1
theorem Mc(c:aG)(t:Bool):(aY c t).Nodup:=(Id c t).2.2.2.2.2.2.1
theorem TG(c:aG)(t:Bool):vJ (fD c) 20 [] (aY c t)=aA (bE c t):=by
 have a:=(Id c t).2.2.2.2.2.2.2;unfold bE;cases b:vJ (fD c) 20 [] (aY c t)with
 |none=>rw[b]at a;injection a
 |some l=>rfl
noncomputable def F0:List (Nat×V):=[(1010963601584883,.a9 4),(8380760175219,.a9 5),(8242255868644,.a9 6)]
def Bf(c:aG)(s:List aP)(l:List Nm):List (V×V):=l.map λa=>(nm a,mE c s a)
theorem XZ(c:aG)(s:List aP)(l:List Nm):(Bf c s l).all (λp=>iC p.1)=aB:=Bg (λa=>rfl) _
theorem aIO(c:aG)(a:Nm):CJ a=aI\/c.i7 a=[]:=bQ (qM (λc a=>aQ<|CJ a=aI\/c.i7 a=[]) (λb b=>rfl) (by decide+kernel) c a)
section
variable{n b:Nat}{Q:V->aH->Prop}{r u:aH}{o A z:O}{F:List (Nat×V)}{c:aG}{t:Bool}{s:List aP}{a:Nm}{l:List Nm}
theorem Uk(h:a∉l):∀p∈Bf c s l,cN p.1 (nm a)=aI:=nA.mpr λb d=>(rS _ _).trans<|fM λe=>h<|e▸d
theorem aMU(d:a∉l)(m:l.length<=10)(q:Q .h9 [o,A,z,.g9 36 F0,.b7 (Bf c s<|l++[a]),.a7 ((l++[a]).map nm),.a7 []]):WC (n+2) 3601 [.a9 3,mE c s a] [o,A,z,.g9 36 F0,.b7 (Bf c s l),.a7 (l.map nm),.a7 []] Q:=by
 refine wc aF7 rfl (wP.of rfl<|cH.of (l:=[a].map nm) rfl<|gR (f:=List Nm) 2 (λk k o=>[aA (.a9 3),aA<|mE c s a,o 0]) (λk x=>[o,A,z,.g9 36 F0,.b7 (Bf c s x),.a7 (x.map nm),.a7 []]) (λi x=>x=l++[a].take i) l rfl rfl (fS l).symm (λi b x t C r f w=> ?_) λx t f=> ?_);induction i using fO with
 |succ=>injection r
 |zero=>have e:b=a:=(aV r).symm;have y:x=l:=f.trans<|fS l;subst e y;refine cL (p:=3) rfl rfl<|cI (jG rfl (iJ (p:=4) rfl)<|(Ha<|XZ ..).trans<|aN (λo=>aA o.isSome)<|Bp<|Uk d)<|cL (p:=3) rfl rfl<|tX (p:=4) rfl (pV (jT<|XZ ..)<|qR<|aR (bW<|bP _) m) rfl<|cL (p:=3) rfl rfl<|lR (p:=5) rfl rfl<|oQ (p:=5) rfl (yH m) rfl<|w (x++[b]) _ _ trivial rfl ?_ rfl;rw[xG (Uk d),show Bf c s (x++[b])=Bf c s x++[(nm b,mE c s b)]from gO ..,gO];rfl
 have e:x=l++[a]:=f;subst e;refine wP.of (v:=Ay c a) rfl<|wP.of rfl<|dL (b:=aQ<|(((c.i7 a).map nm).length:Int)>0) rfl (λh=>wP.of rfl<|vK (λj=> ?_) λj=>fQ q) λh=>fQ q;rcases aIO c a with g|g
 rw[g]at j;injection j;rw[g]at h;injection h
theorem aAB(X:bC c t s F u)(h:a∈aY c t)(q:Q .h9 u):WC (n+3) 3602 [.a9 3,nm a] u Q:=by
 refine wc aJR rfl (bG X.o rfl<|Kt X h<|cH.of rfl<|gR 2 (λf f o=>[aA (.a9 3),aA<|nm a,o 0]) (λf f=>u) (λf f=>True) () rfl rfl trivial (λi d f j p l f k=> ?_) λf j f=>bG X.o rfl<|CU X h<|dL (Bv (c.k9 a) aC) (λe=> ?_) λe=>fQ q);have m:=Ke h<|fT l;exact cL X.o X.ke<|cI (jG rfl (iJ X.e)<|aN (hV oK)<|(uN<|PH ..).trans<|aN (λo:Option V=>aA o.isSome)<|Jd m)<|k () _ _ trivial rfl rfl trivial;cases g:c.k9 a with
 |none=>rw[g]at e;injection e
 |some b=>
  refine bG X.o rfl (bG X.o rfl<|CU X h ?_);rw[show sR c a=nm b by unfold sR;rw[g];rfl]
  refine UG X (PO h g) ?_;rw[(WD g).2];exact fQ<|fQ q
theorem NL{b c:Type}(f:b->c):∀(l:List b) (i:Nat),(l.map f).eraseIdx i=(l.eraseIdx i).map f
 |[],_=>rfl
 |_::_,0=>rfl
 |a::l,i+1=>aN (f a::·)<|NL f l i
theorem aJJ{a:Nm}{l:List Nm}(h:a∈l):GR (nm a) (l.map nm)=aA ((l.erase a).map nm):=by
 unfold GR;rw[show(iC (nm a)&&(l.map nm).all iC)=aB by rw[qZ];exact cX.mpr λc c=>rfl]
 show((l.map nm).findIdx? λy=>cN y<|nm a).map (λj=>(l.map nm).eraseIdx j)=_;rw[List.findIdx?_map,show((λy=>cN y<|nm a)∘nm)=λb=>b==a from funext λb=>rS b a,List.erase_eq_eraseIdx];show(l.idxOf? a).map _=_;cases e:l.idxOf? a with
 |none=>exact aZ h<|List.idxOf?_eq_none_iff.mp e
 |some i=>exact aN aA<|NL nm l i
theorem YD(l f:List Nm):(l.filter λd=> !aQ (d∈f)).isEmpty=l.all λx=>aQ (x∈f):=by
 induction l with
 |nil=>rfl
 |cons d l a=>
  rw[LD,Dn];cases aQ (d∈f)with
  |true=>exact a
  |false=>rfl
theorem ZC{p:Nm->Bool}{W:List Nm}{a:Nm}(h:W.find? p=aA a):∃w,W.filter p=a::w:=by
 have b:=List.head?_filter (p:=p) (l:=W);rw[h]at b;cases c:W.filter p with
 |nil=>rw[c]at b;injection b
 |cons x w=>rw[c]at b;exact⟨w,by rw[aV b]⟩
theorem aGD(X:bC c t s F u)(q:Q (.a7 ((bE c t).map nm)) u):WC (n+4) 3604 [.a9 3] u Q:=by
 refine wc sw rfl (cL (dN X.o) X.ks<|pU (kO<|dN X.s) rfl<|oR (ext:=[.a7 []]) rfl rfl<|dS.of rfl<|JE 3 (λ(x:List Nm×List Nm) o=>[aA (.a9 3),aA<|.a9 u.length,aA<|.a9 (u.length+1),o 0]) (λx=>u++[.a7 (x.1.map nm),.a7 (x.2.map nm)]) (λk x=>vJ (fD c) k x.1 x.2=aA (bE c t)/\(∀b∈x.2,b∈aY c t)/\x.1.length+x.2.length<=63) 20 ([],aY c t) rfl rfl ⟨TG c t,λq9 H=>H,aR (bW<|jH _)<|lX (DS c t) rfl⟩ (bV rfl) ?_);rintro k ⟨f,w⟩ o K' ⟨i,J,m⟩ Y N;have M:=X.j7 [.a7 (f.map nm),.a7 (w.map nm)];have I:(u++[O.a7 (f.map nm),O.a7<|w.map nm])[u.length]? =aA (.a7 (f.map nm)):=BD;have L:(u++[O.a7 (f.map nm),O.a7<|w.map nm])[u.length+1]? =aA (.a7 (w.map nm)):=Kn;have m:f.length+w.length<=63:=m;have v:=aR (wZ ..) m;have C:=aR (dI ..) m;refine pU (kO L) (aN (λk:Nat=>aA<|V.a5 k)<|bP _)<|dL (b:=aQ<|(w.length:Int)>0) rfl (λh=> ?_) λh=>N _ _ ?_;induction k using fO with
 |zero=>
  induction w using bM with
  |nil=>injection h
  |cons=>exact nomatch i
 |succ k=>
  refine cH.of (Bs L) (eE nm (λa=>jE ((fD c a).all λx=>aQ<|x∈f)<|nm a) (λa Z K q=>bG M.o rfl<|Kt M (J a Z)<|cH.of rfl<|eE nm (λd=>jE (!aQ (d∈f)) (nm d)) (λd hd K q=>sN (jG rfl (kO I)<|aN (hV oK) Cn)<|q _) ?_) ?_);rw[mP];refine wG.of (fR<|aR (lA ..)<|On c a)<|sN (b:=(fD c a).all λx=>aQ<|x∈f) ((NE _).trans<|aN aA ?_)<|q _;rw[←YD];exact aU8;rw[mP];refine wG.of (fR<|aR (lA ..) v) ?_;have P:w=[]\/∃a,w.find? (λa=>(fD c a).all λx=>aQ<|x∈f)=aA a/\vJ (fD c) k (f++[a]) (w.erase a)=aA (bE c t):=by
   induction w using bM with
   |nil=>exact .inl rfl
   |cons b r=>
    refine .inr ?_;have i:(match(b::r).find? (λa=>(fD c a).all λx=>aQ<|x∈f)with|none=>aC|some a=>vJ (fD c) k (f++[a])<|(b::r).erase a)=aA (bE c t):=i
    cases g:(b::r).find? (λa=>(fD c a).all λx=>aQ<|x∈f)with
    |none=>rw[g]at i;injection i
    |some a=>rw[g]at i;exact⟨a,rfl,i⟩
  rcases P with e|⟨a,g,i⟩
  rw[e]at h;injection h;obtain⟨w',p⟩:=ZC g;rw[p];have j:=QW g;have y:=aRG j;have l:=aRI j;refine wP.of rfl (cI (aN (λb=>aA b) rfl) (lR I rfl (wP.of rfl (oQ I (yH C) Jb (lR Kn rfl (wP.of rfl (HL Kn (λh=>nomatch h) (by show(GR (nm a)<|w.map nm).map _=_;rw[aJJ j];rfl) ?_)))))))
  refine Y k (f++[a],w.erase a) _ _ (jY k) rfl ?_ ⟨i,λb H=>J b<|List.mem_of_mem_erase H,?_⟩;rw[Tl,gO];rfl;show(f++[a]).length+(w.erase a).length<=63;rw[cM,y,kX];exact aR (fG (bW<|oL l) _) m
 have e:w=[]:=by
  induction w using bM with
  |nil=>rfl
  |cons a r=>exact aZ (aU2 r.length)<|pM h
 subst e;have:f=bE c t:=by cases k<;>exact aV i
 subst this;exact GA Ko q
end
section
variable{n b:Nat}{Q:V->aH->Prop}{d:aH}{F:List (Nat×V)}{c:aG}{t:Bool}{s:List aP}{a:Nm}{l:List Nm}
theorem aAO(f:aP):pv 9 (nW f)=aB:=by show(pv 8 f.u7&&aB)=aB;rw[show pv 8 f.u7=aB from VR f.ty];rfl
theorem Nv{b c:Type}{g:b->List c}{l:List b}{i:Nat}{a:b}(h:l[i]? =aA a):(l.take<|i+1).flatMap g=(l.take i).flatMap g++g a:=by rw[tP,h,LF];exact aN _<|fS _
theorem UW{a b:Type}{g:a->List b}(l:List a)(i:Nat):((l.take i).flatMap g).length<=(l.flatMap g).length:=by have:=aN EH<|aN (aU9 g)<|EG i l;rw[LF,cM]at this;exact this▸dI ..
theorem aHJ(X:bC c t s F d)(z:lZ 1055077183566564 F=aA (.a7 ((bE c t).map nm)))(A:(bX c t s).length<=4)(q:Q (.a7 ((bX c t s).map nW)) d):WC (n+1) 3605 [.a9 3] d Q:=by
 refine wc nz rfl (dS.of rfl<|cL (dN X.o) z<|cH.of rfl<|gR 3 (λb b o=>[aA (.a9 3),aA<|.a9 (d.length+0),aA<|.a5 0,o 0,o 1,o 2,o 3,o 4,o 5,o 6]) (λi b=>d++[.a7 ((((bE c t).take i).flatMap λa=>s.filter λf=>f.g8==a).map nW)]) (λb b=>True) () rfl rfl trivial (λi a b o y w b k=> ?_) λb o b=> ?_);have C:=(qH c t).e7 a<|fT w;have p:=aR (UW (g:=λa=>s.filter λf=>f.g8==a) (bE c t)<|i+1) A;have k:=k ();rw[Nv w]at p k;generalize((bE c t).take i).flatMap (λa=>s.filter λf=>f.g8==a)=P at p k⊢;have v:=X.j7 [.a7 (P.map nW)];refine cL v.o v.ke (Es v C (wP.of rfl (cH.of (l:=(s.filter λf=>f.g8==a).map KB) rfl (gR 4 (λb b o=>[aA (.a9 3),aA<|.a9 (d.length+0),aA<|.a5 0,aA<|nm a,o 0,o 1,o 2,o 3,o 4,o 5]) (λj b=>d++[.a7 ((P++(s.filter λf=>f.g8==a).take j).map nW)]) (λb b=>True) () rfl (by rw[fm,fS]) trivial (λj f b o y m b h=> ?_) λb o b=> ?_))))
 have u:f.g8=a:=beq_iff_eq.mp (jA.mp<|fT m).2;have x:(P++(s.filter λf=>f.g8==a).take j).length<=4:=aR (by rw[cM,cM];exact fG (KW ..) _) p
 have h:=h ();rw[tP,m,←dK]at h;generalize P++(s.filter λf=>f.g8==a).take j=R at x h⊢;refine dS.of rfl (cH.of (l:=[f].map λf=> .d9 (dT f.k)) rfl (gR 9 (λb b o=>[aA (.a9 3),aA<|.a9 (d.length+0),aA<|.a5 0,aA<|nm a,aA<|.a5 0,aA<|.e8 aI,aA<|.a8 [.d9 (dT f.k)],aA<|vS "set",aA f.u7,o 0]) (λj b=>d++[.a7 ((R++[f].take j).map nW)]) (λb b=>True) () rfl (by rw[fm,fS]) trivial (λj g b o y m b r=> ?_) λb o b=> ?_))
 induction j using fO with
 |succ=>injection m
 |zero=>have e:g=f:=(aV m).symm;subst e u;rw[fm,fS];exact lR (eQ rfl 0 rfl) rfl (fQ (wP.of rfl (oQ (eQ rfl 0 rfl) (yH x) (wE rfl 0 _) (r () _ _ trivial rfl (by rw[show [g].take (0+1)=[g]from rfl,gO];rfl) trivial))))
 exact fQ (wP.of rfl<|h _ _ trivial rfl rfl trivial);rw[oO];exact k _ _ trivial rfl rfl trivial;rw[oO];exact GA (nA.mpr λf b=>OG (aAO f)<|bV rfl) q
theorem aNZ(X:bC c t s F d)(L:lZ 2213023116341192372851 F=aA (.a7 ((bX c t s).map nW)))(k:dB c t s)(q:∀m,Q .h9<|d++[.b7 m]):WC (n+4) 3606 [.a9 3] d Q:=by
 have h:=qH c t;have w:=Bk h.nd h.i7 k;have Z:=X.j7 [.b7 []];refine wc qp rfl<|wP.of rfl<|cL Z.o L<|cH.of rfl<|gR (f:=List<|V×V) 2 (λa a o=>[aA (.a9 3),aA<|.a9 (d.length+0),o 0,o 1,o 2,o 3,o 4,o 5,o 6]) (λa x=>d++[O.b7 x]) (λi x=>x=((bX c t s).take i).map λf=>(V.a8 [.d9 (dT f.k),nm f.g8],.e8 aB)) [] rfl rfl rfl (λi f x o K' C e M=> ?_) λx o a=>q x;have I:=(pQ h.i7 k.g8).mp<|fT C;have y:=X.j7 [.b7 x];have K:(d++[.b7 x])[d.length+0]? =aA (.b7 x):=eQ rfl 0 rfl;have N:x.length<=4:=e▸bP (as:=(bX c t s).take i) _▸pD w;have J:x.all (λp=>gP p.1)=aB:=by rw[e,qZ];exact cX.mpr λa a=>rfl
 have u:∀b:Nm,∀p∈x,cN p.1 (.a8 [.d9 (dT f.k),nm b])=aI:=by intro b;rw[e];refine nA.mpr λg H=> ?_;have P:g.k≠f.k:=λY=>xL (Cg h.nd k.nd) C<|k.v9 g ((pQ h.i7 k.g8).mp<|QU H) f I Y▸H;show(((aA<|dT g.k==dT f.k).bind λp=>((aA<|iO g.g8==iO b).bind λq=>(aA aB).map λr=>q&&r).map λq=>p&&q).getD aI)=aI;rw[Nq,fM P];rfl
 refine dS.of rfl (cL y.o y.ke<|cI (jG rfl (iJ y.e)<|(uN<|jT<|Ng ..).trans<|aN (λo:Option V=>aA o.isSome) VZ)<|bG y.o rfl<|UO y (k.g8 f I) λl A=>wP.of (v:= .a7 ((f.g8::l).map nm)) (mJ<|fR (g:=nm) (l:=f.g8::l)<|gZ A)<|cH.of rfl<|gR 8 (λa a o=>[aA (.a9 3),aA<|.a9 (d.length+0),aA<|.d9 (dT f.k),aA<|nm f.g8,aA<|vS "set",aA f.u7,aA<|.a5 0,aA<|.a5 (-1),o 0]) (λa a=>d++[.b7 x]) (λa a=>True) () rfl rfl trivial (λj b a o K' a a z=> ?_) λa o a=> ?_);exact cI (jG rfl (iJ K)<|(uN<|As J rfl).trans<|aN (λo:Option V=>aA o.isSome)<|Bp<|u b)<|z () _ _ trivial rfl rfl trivial;refine tX K (pV (As J rfl)<|qR N) (wE rfl 0 _)<|M _ _ _ trivial rfl rfl ?_;rw[xG (u f.g8),xN C,←e]
theorem za(X:bC c t s F d)(e:lZ 8242255868644 F=aA (.a9 6))(b:d[6]? =aA (.a7 []))(q:Q .h9 (d.set 6<|.a7 [.a8 [vS "o",nm E]])):WC (n+1) 3607 [.a9 3,tW] d Q:=by
 refine wc aOY rfl (wP.of (v:= .a8 [.a5 0,vS "util/ordering",.a8 [vS "E"],vS "o"]) (by rfl') (dS.of rfl (cI (CQ _) (wP.of rfl (cI (by rfl') (fQ (wP.of rfl (cL X.o X.ke (cI (jG rfl (iJ X.e)<|aN (hV oK)<|(uN<|PH ..).trans<|aN (λo:Option V=>aA o.isSome)<|Jd (a:=E) (qH c t).e) (gL (by rfl') ?_))))))))))
 exact cL X.o e (cH.of (Bs b) (eE (l:=([]:List Nm)) nm (λg=>[]) (λa f=>nomatch f)<|wG.of rfl<|cI rfl<|cL X.o e<|lR b rfl<|wP.of rfl<|oQ b rfl rfl q))
end
def F1(c:aG)(t:Bool):List (Nat×V):=F0++[(1055077183566564,.a7 ((bE c t).map nm))]
def F2(c:aG)(t:Bool)(g:List aP):List (Nat×V):=F1 c t++[(2213023116341192372851,.a7 ((bX c t g).map nW))]
def itO(c:aG)(g:List aP):Option Nm->V|some a=>mE c g a|none=>tW
theorem Yn{l:List Nm}{i:Nat}{x:Option Nm}(h:(l.map aA++[aC])[i]? =aA x):(∃a,x=aA a/\l[i]? =aA a)\/x=aC/\i=l.length:=by
 by_cases b:i<l.length
 rw[rC ((bP _).symm▸b),jW,iA b]at h;exact .inl ⟨l[i],(aV h).symm,iA b⟩;have c:=(iU.mp h).1;rw[cM,bP]at c;have e:i=l.length:=qC (gW c)<|Dq b;rw[e,uR<|bW<|bP _,bP,yT]at h;exact .inr ⟨(aV h).symm,e⟩
section
variable{n b:Nat}{Q:V->aH->Prop}{u:aH}{F:List (Nat×V)}{c:aG}{t:Bool}{g:List aP}{a:Nm}{l:List Nm}{z:V}
theorem aAF{o h f:O}(J:dB c t g)(q:∀F b,SA c t g F ([o,h,f,.g9 36 F,.b7 (kV c t g),.a7 ((aY c t).map nm),.a7 [.a8 [vS "o",nm E]],.b7 b])->Q .h9 [o,h,f,.g9 36 F,.b7 (kV c t g),.a7 ((aY c t).map nm),.a7 [.a8 [vS "o",nm E]],.b7 b]):WC (n+5) 3600 [.a9 3,.a7 ((aY c t).map (mE c g)++[tW])] [o,h,f,.g9 36 []] Q:=by
 have r:=qH c t;have C:=DS c t;have v:∀u,tA (.a7 ((aY c t).map (mE c g)++[tW])) u=aA (.h9,((aY c t).map aA++[aC]).map<|itO c g):=λu=>by rw[gO,kL];rfl
 refine wc aKR rfl (wP.of rfl<|DT (p:=3) (b:=[o,h,f,.g9 36 [(1010963601584883,.a9 4)],.b7 []]) rfl rfl rfl<|DT (p:=3) (b:=[o,h,f,.g9 36 [(1010963601584883,.a9 4),(8380760175219,.a9 5)],.b7 [],.a7 []]) rfl rfl rfl<|DT (p:=3) (b:=[o,h,f,.g9 36 F0,.b7 [],.a7 [],.a7 []]) rfl rfl rfl<|cH.of (v _)<|gR 2 (λd d j=>[aA (.a9 3),aA<|.a7 ((aY c t).map (mE c g)++[tW]),j 0,j 1]) (λi d=>[o,h,f,.g9 36 F0,.b7 (Bf c g<|(aY c t).take i),.a7 (((aY c t).take i).map nm),.a7 []]) (λd d=>True) () rfl rfl trivial (λi x d j N w d k=> ?_) λd j d=> ?_);rcases Yn w with⟨a,e,A⟩|⟨e,H⟩
 subst e;refine wP.of rfl<|gL (pX _)<|bG (p:=3) rfl rfl<|aMU (xL (Mc c t) A) (pD C)<|k () _ _ trivial rfl ?_ trivial;rw[tP,A];rfl;subst e H;refine wP.of rfl (cI (by rfl') (k () _ _ trivial rfl ?_ trivial))
 rw[KZ (bT _),KZ<|jC _];rw[KZ (by rw[cM,bP];exact jC _)]
 have m:bC c t g F0 [o,h,f,.g9 36 F0,.b7 (kV c t g),.a7 ((aY c t).map nm),.a7 []]:=⟨rfl,rfl,rfl,rfl,rfl⟩;refine cL m.o m.ks<|cH.of (Bs m.s)<|gR 3 (λd d K=>[aA (.a9 3),aA<|.a7 ((aY c t).map (mE c g)++[tW]),j 0,K 0]) (λd d=>[o,h,f,.g9 36 F0,.b7 (kV c t g),.a7 ((aY c t).map nm),.a7 []]) (λd d=>True) () rfl rfl trivial (λi a d d N w d k=>bG m.o rfl<|aAB m (fT w)<|k () _ _ rfl rfl rfl trivial) λd K d=>bG m.o rfl<|aGD m ?_;have M:bC c t g (F1 c t) [o,h,f,.g9 36 (F1 c t),.b7 (kV c t g),.a7 ((aY c t).map nm),.a7 []]:=⟨rfl,rfl,rfl,rfl,rfl⟩;have L:bC c t g (F2 c t g) [o,h,f,.g9 36 (F2 c t g),.b7 (kV c t g),.a7 ((aY c t).map nm),.a7 []]:=⟨rfl,rfl,rfl,rfl,rfl⟩;have I:∀P b,bC c t g (F2 c t g) [o,h,f,.g9 36 (F2 c t g),.b7 (kV c t g),.a7 ((aY c t).map nm),.a7 P,.b7 b]:=λd d=>⟨rfl,rfl,rfl,rfl,rfl⟩;refine DT (p:=3) (b:=[o,h,f,.g9 36 (F1 c t),.b7 (kV c t g),.a7 ((aY c t).map nm),.a7 []]) rfl rfl rfl<|bG M.o rfl<|aHJ M rfl (Bk r.nd r.i7 J)<|DT (p:=3) (b:=[o,h,f,.g9 36 (F2 c t g),.b7 (kV c t g),.a7 ((aY c t).map nm),.a7 []]) rfl rfl rfl<|bG L.o rfl<|aNZ L rfl J λb=> ?_;refine cH.of (v _) (gR (f:=List V) 2 (λd d j=>[aA (.a9 3),aA<|.a7 ((aY c t).map (mE c g)++[tW]),j 0,j 1]) (λd x=>[o,h,f,.g9 36 (F2 c t g),.b7 (kV c t g),.a7 ((aY c t).map nm),.a7 x,.b7 b]) (λi x=>x=if i<=(aY c t).length then []else [.a8 [vS "o",nm E]]) [] rfl rfl (bO<|eO _).symm (λi x y j N w l k=> ?_) λx j l=> ?_);rcases Yn w with⟨a,e,A⟩|⟨e,H⟩
 subst e;have s:=(iU.mp A).1;rw[bO (dR s)]at l;exact wP.of rfl (cI (by rfl') (k y _ _ trivial rfl rfl<|l.trans (bO<|fq s).symm))
 subst e H;rw[bO (bT _)]at l;subst l;exact wP.of rfl<|gL (pX _)<|bG (I [] b).o rfl<|za (I [] b) rfl rfl<|k _ _ _ trivial rfl rfl (bH<|aQ3 _).symm;rw[bH (by rw[cM,bP];exact aQ3 _)]at l
 subst l;exact q _ b ⟨I _ b,rfl,rfl,rfl,rfl⟩
structure TV(c:aG)(t:Bool)(z:V)(u:aH):Prop where
 P6:∃s,tA z u=aA (s,(aY c t).map nm)
 e7:∀{a:Nm},a∈aY c t->rQ z (nm a) u=aA (Aq c a)
 f7:iX 0 z u=aA (.a5 ((aY c t).length:Nat))
theorem WG{s:Sr}(b:tA z u=aA (s,(fF c<|aY c t).map<|λp=>p.1))(h:eK z u=aA (.b7 (fF c<|aY c t))):TV c t z u:=
 ⟨⟨s,GW c (aY c t)▸b⟩,λ{a} d=>by unfold rQ;rw[h];show(match dY (nm a) (fF c<|aY c t)with|true=>dF (nm a) (fF c<|aY c t)|false=>aC)=_;rw[show dY (nm a) (fF c<|aY c t)=aB from jT (uH ..)];exact Tf d,
  Px h ((mJ<|uH ..).trans<|aN (λk:Nat=>aA<|V.a5 k)<|bP _)⟩
theorem aJU(h:u[1]? =aA (.b7 (fF c<|aY c t))):TV c t (.a9 1) u:=WG (MV h<|uH ..)<|iJ h
theorem gz:TV c t (.b7 (fF c<|aY c t)) u:=WG (s:= .h9) (by show(match gE (fF c<|aY c t)with|true=>aA (Sr.h9,(fF c<|aY c t).map Lh)|false=>aC)=_;rw[show gE (fF c<|aY c t)=aB from uH ..]) rfl
def vP(c:aG)(f:List Nm)(a:Nm):Bool:=match c.k9 a with|none=>aB|some p=>aQ<|p∈f
theorem aPM(c:aG)(f:List Nm)(a:Nm):((fD c a).all λx=>aQ<|x∈f)=(vP c f a&&(c.i7 a).all λx=>aQ<|x∈f):=by unfold fD vP;cases c.k9 a<;>rfl
theorem aEO{f:List Nm}(c:l.Nodup):(l.filter λx=> !aQ (x∈f)).erase a=l.filter λx=> !aQ (x∈f++[a]):=by rw[List.Nodup.erase_eq_filter (c.filter _),aRR];refine aRS λx d=> ?_;by_cases b:x=a;subst b;rw[cU (kM f<|.head _),bne_self_eq_false];rfl;rw[show(x !=a)=aB from bne_iff_ne.mpr b,decide_eq_decide.mpr (show x∈f↔x∈f++[a]from⟨rG _,λh=>(fU.mp h).resolve_right λh=>b<|dU.mp h⟩)];rfl
theorem aM1(X:∀ext,TV c t z<|u++ext)(q:Q (.a7 ((bE c t).map nm)) u):WC (n+1) 4499 [z] u Q:=by
 have F:=DS c t;refine wc aD2 rfl<|JE 2 (λ(q9:List Nm×List Nm) o=>[aA z,aA<|.a9 u.length,o 0]) (λx=>u++[.a7 (x.1.map nm)]) (λk x=>vJ (fD c) k x.1 x.2=aA (bE c t)/\x.2=((aY c t).filter λa=> !aQ (a∈x.1))/\x.1.length+x.2.length=(aY c t).length) 20 ([],aY c t) rfl rfl ⟨TG c t,(aUK.mpr λa q9=>rfl).symm,jH _⟩ (bV rfl) ?_;rintro k ⟨f,w⟩ o K' ⟨y,M,H⟩ hn hx;have L:=X [.a7 (f.map nm)];have I:(u++[O.a7 (f.map nm)])[u.length]? =aA (.a7 (f.map nm)):=BD;have H:f.length+w.length=(aY c t).length:=H;have M:w=(aY c t).filter λa=> !aQ (a∈f):=M;have hfl:f.length<=10:=aR (dI ..)<|H▸F;have Y:w.length<=10:=aR (wZ ..)<|H▸F;refine pU (kO I) (aN (λk:Nat=>aA<|V.a5 k)<|bP _)<|wP.of L.f7<|dL (b:=aQ<|(f.length:Int)<(aY c t).length) rfl (λh=> ?_) λh=>hx _ _ ?_;have h:=tK.mp<|bQ h;obtain⟨s,hs⟩:=L.P6;refine cH.of hs<|eE nm (λa=>jE (!aQ (a∈f)&&vP c f a) (nm a)) (λa N K q=>dL (jG rfl (kO I)<|aN (hV oK) Cn) (λe=>wP.of (L.e7 N)<|wP.of rfl<|dL (tS (c.k9 a) aC) (λP=>mI<|mI ?_) λP=>wP.of (L.e7 N)<|wP.of rfl ?_) λe=>fQ ?_) ?_;rw[e,show vP c f a=aB by unfold vP;rw[bQ P]]at q;exact q _
 cases Z:c.k9 a with
 |none=>rw[Z]at P;injection P
 |some p=>
  rw[e,show vP c f a=aQ (p∈f) by unfold vP;rw[Z]]at q
  rw[show sR c a=nm p by unfold sR;rw[Z];rfl]
  refine dL (jG rfl (kO I) Cn) (λe3=>mI<|mI ?_) λe3=>fQ<|fQ ?_;rw[e3]at q;exact q _;rw[e3]at q;exact q _
 rw[e]at q;exact q _;rw[mP];refine wG.of (fR<|aR (lA ..) F)<|lR I rfl ?_;have C:∀a∈(aY c t).filter λa=> !aQ (a∈f)&&vP c f a,a∈aY c t:=λa h=>(jA.mp h).1;have i:(((aY c t).filter λa=> !aQ (a∈f)&&vP c f a).filter λa=>(c.i7 a).all λx=>aQ<|x∈f)=w.filter λa=>(fD c a).all λx=>aQ (x∈f):=by rw[M,aRR,aRR];refine aRS λa q9=> ?_;rw[aPM];cases aQ (a∈f)<;>cases vP c f a<;>cases((c.i7 a).all λx=>aQ<|x∈f)<;>rfl
 generalize((aY c t).filter λa=> !aQ (a∈f)&&vP c f a)=A at C i⊢;refine cH.of rfl<|eE nm (λa=>jE ((c.i7 a).all λx=>aQ<|x∈f)<|nm a) (λa N K q=>wP.of (L.e7<|C a N)<|wP.of (v:=Ay c a) rfl<|cH.of (l:=(c.i7 a).map nm) rfl<|eE nm (λd=>jE (!aQ (d∈f)) (nm d)) (λd hd K q=>sN (jG rfl (kO I)<|aN (hV oK) Cn)<|q _) ?_) ?_;rw[mP];refine wG.of (fR<|aR (lA ..)<|Kg c a)<|sN (b:=(c.i7 a).all λx=>aQ<|x∈f) ((NE _).trans<|aN aA ?_)<|q _;rw[←YD];exact aU8;rw[mP,i];refine wG.of (fR<|aR (lA ..) Y) ?_;have hc:∃j a,k=j+1/\w.find? (λa=>(fD c a).all λx=>aQ<|x∈f)=aA a/\vJ (fD c) j (f++[a]) (w.erase a)=aA (bE c t):=by
  induction w using bM with
  |nil=>exact aZ H<|lU h
  |cons b r=>induction k using fO with
   |zero=>exact nomatch y
   |succ k=>
    have y:(match(b::r).find? (λa=>(fD c a).all λx=>aQ<|x∈f)with|none=>aC|some a=>vJ (fD c) k (f++[a])<|(b::r).erase a)=aA (bE c t):=y
    cases m:(b::r).find? (λa=>(fD c a).all λx=>aQ<|x∈f)with
    |none=>rw[m]at y;injection y
    |some a=>rw[m]at y;exact⟨k,a,rfl,rfl,y⟩
 obtain⟨j,a,ek,m,y⟩:=hc;obtain⟨w',i⟩:=ZC m;rw[i];have J:=QW m;refine wP.of rfl<|oQ I (yH hfl) Jb<|hn j (f++[a],w.erase a) _ _ (ek▸jY j) rfl ?_ ⟨y,?_,?_⟩;rw[gO];rfl;rw[M];exact aEO<|Mc c t;show(f++[a]).length+(w.erase a).length=_;rw[cM,aRG J,kX,←H];exact aN _<|oL<|aRI J;have h:=λh2=>pM h<|tK.mpr h2;have e:w=[]:=by
  induction w using bM with
  |nil=>rfl
  |cons b r=>exact aZ (H▸QC (gM _)) h
 subst e;have:f=bE c t:=by cases k<;>exact aV y
 subst this;exact GA Ko q
end
def uI(c:aG):List Nm:=([U,B,D,E0].filter λa=>aQ<|a∈c.i0)++(if c.mT=0\/c.mT=1 then [T]else [])
structure TI(c:aG)(l:List bD)(w:List Nm)(i:Nat):Prop where
 nd:(l.map (·.g8)).Nodup
 wd:w.Nodup
 no:∀x∈l,x.g8∉w
 g8:∀x∈l,x.g8∈uI c/\x.w5<=2
 ws:∀a∈w,a∈uI c
 f7:l.length=i
 O3:i+w.length=(uI c).length
theorem TI.Q8{c:aG}{l:List bD}{w:List Nm}{i:Nat}(h:TI c l w i){d:Nat}(j:d<w.length){e:Bool}{k:Nat}(s:k<=2):TI c (l++[⟨e,k,w[d]⟩]) (w.eraseIdx d) (i+1):=by
 have m:LH (w.eraseIdx d) w:=List.eraseIdx_sublist ..;have n:w[d]∈w:=EY j;have q:w[d]∉w.eraseIdx d:=List.erase_eq_eraseIdx_of_idxOf (h.wd.idxOf_getElem d j)▸h.wd.not_mem_erase;have g:∀{P:bD->Prop},(∀x∈l,P x)->P ⟨e,k,w[d]⟩->∀x∈l++[⟨e,k,w[d]⟩],P x:=λv u x b=>(fU.mp b).elim (v x) λb=>dU.mp b▸u;refine⟨?_,h.wd.sublist m,g (λx b r=>h.no x b<|m.subset r) q,g h.g8 ⟨h.ws _ n,s⟩,λa t=>h.ws a<|m.subset t,by rw[cM,h.f7];rfl,?_⟩
 rw[gO];refine DC.mpr ⟨h.nd,Dm _ _,λx b y p e=> ?_⟩;obtain⟨z,o,A⟩:=gJ.mp b;exact h.no z o<|A.trans (e.trans<|dU.mp p)▸n;rw[aRT j,kX,oL<|fZ (eO d) j];exact h.O3
noncomputable def IA(c:aG):Prop:=3<=(uI c).length/\(uI c).length<=5/\(uI c).Nodup/\∀a∈uI c,a∈c.i0/\(bY c a).isSome=aB/\(a≠T\/c.mT=0\/c.mT=1)/\a≠E
noncomputable instance (c:aG):Decidable (IA c):=by unfold IA;infer_instance
theorem Vu(c:aG):IA c:=by
 have h:(([0,1,2,3]:List (_root_.Fin 4)).all λm=>cfgL.all λc=>aQ (IA {c with mT:=m}))=aB:=by decide+kernel
 have:=cX.mp (cX.mp h c.mT<|XE _) _<|PL c;exact bQ this
theorem TI.m0{c:aG}{t:Bool}{l:List bD}{w:List Nm}{i:Nat}(h:TI c l w i)(d:i<=2):mA c t l/\AU c l/\∀x∈l,x.g8≠E:=by obtain⟨_,_,_,b⟩:=Vu c;have b:=λ{x} (a:x∈l)=>b _ (h.g8 x a).1;refine⟨⟨h.nd,λx a=>⟨rO.mpr (b a).1,(b a).2.1,(h.g8 x a).2⟩,h.f7▸lX d rfl⟩,λe=> ?_,λx a=>(b a).2.2.2⟩;obtain⟨x,a⟩:=wR.mp (show(lN l T).isSome=aB from e);have g:x.g8=T:=bQ<|aRP (p:=λx:bD=>aQ<|x.g8=T) a;exact(b<|QW a).2.2.1.resolve_left λh=>h g
theorem aJL(c:aG){f:aH}:dZ .In (c.t7 T) (.a8 [vS "",vS "some"]) f=aA (aQ<|c.mT=0\/c.mT=1):=by
 obtain⟨m,a,d,b,s,r⟩:=c;match m with
 |0=>rfl'
 |1=>rfl'
 |2=>rfl'
 |3=>rfl'
theorem Zr{c:aG}{l:List Nm}{a:Nm}:uZ (nm a) (.b7 (fF c l))=aA (aQ<|a∈l):=by refine(uN (x:=nm a)<|jT<|uH ..).trans (aN aA ?_);unfold fF;rw[AA rS];by_cases h:a∈l;rw[bO h,cU h];rfl;rw[bH h,fM h];rfl
section
variable{n b:Nat}{Q:V->aH->Prop}{r f:aH}{o:O}{c:aG}{t:Bool}
theorem Zb{C:cR}{d:Co}{K:PF}{a:List V}{L:Lc}{m:Nat}(b:f.length=m)(q:aS C d K (.a9 (m+0)::a) L (f++[.a7 []])):aS C (.a7 0 (.j6 d)) K a L f:=by show aS C d K (.a9 f.length::a) L (f++[.a7 []]);rw[b];exact q
theorem aAP(hr:r.length=7)(h1:r[0]? =aA (.b7 (fF c c.i0)))(hT:fI (b+8) o)(q:∀d l,d<3->mA c t l->AU c l->(∀x∈l,x.g8≠E)->∀p x y,fI b p->Q (sZ d l) (p::r++[x,y])):WC (n+2) 4599 [.a9 0,.a9 1] (o::r) Q:=by
 have s:∀o:O,(o::r).length=8:=λo=>aN EI hr;have g1:∀(o:O) ext,(o::r++ext)[1]? =aA (.b7 (fF c c.i0)):=λo ext=>by show(r++ext)[0]? =_;exact dN h1
 obtain⟨hP1,hP3,hP2,_⟩:=Vu c;refine wc aCF rfl<|Zb (s o)<|cH.of (l:=[U,B,D,E0].map nm) rfl<|eE nm (λa=>jE (aQ<|a∈c.i0)<|nm a) (λa ha K q=>sN (jG rfl (iJ<|g1 o _) Zr)<|q _) ?_;rw[mP];have L:([U,B,D,E0].filter λa=>aQ<|a∈c.i0).length<=4:=lA ..;refine wG.of (fR L) (oR (s o) rfl (dS.of rfl (wP.of (xQ (g1 o _) (show T∈c.i0 from .head _)) (wP.of (v:=c.t7 T) rfl<|TL (λF=>F=(o::r)++[.a7 [],.a7 ((uI c).map nm)]) (aJL c) (λe K' q=>lR (eQ (s o) 1 rfl) rfl<|oQ (eQ (s o) 1 rfl) (yH L) (wE (s o) 1 _)<|q _ ?_) (λe K' q=>q _ ?_) λF e=> ?_))));unfold uI;rw[bO (bQ e),gO];rfl;unfold uI;rw[bH (pM e),fS];rfl;subst e;refine nV (b:=b+7) (r:=r++[O.a7 [],O.a7<|(uI c).map nm]) (m:=3) hT (gM _) λd hd p T'=>wG.of (BH (a:=0) (eO _)<|aR (dR hd)<|bV rfl) (gR (f:=O×List bD×List Nm) (l:=eW d) (g:=λk:Nat=> .a5 (0+(k:Int))) 2 (λX (x:O×List bD×List Nm) M=>[aA (.a9 0),aA<|.a9 1,M 0,aA<|.a9 (8+0),aA<|.a9 (8+1),M 3]) (λX x=>(x.1::r)++[.a7 (x.2.1.map Ag),.a7 (x.2.2.map nm)]) (λi x=>(∀j,j+i<=2->fI (b+1+3*j) x.1)/\TI c x.2.1 x.2.2 i) (p,[],uI c) rfl rfl ⟨λj P=>T'.H4<|fG (DA 3 P)<|b+1,⟨.nil,hP2,λX h=>(nomatch h),λX h=>(nomatch h),λa h=>h,rfl,jH _⟩⟩ (λi k ⟨N,l,w⟩ M K' u ⟨C,I⟩ hn=> ?_) λ⟨N,l,w⟩ M ⟨C,I⟩=> ?_);obtain⟨h2,h3⟩:=iU.mp u;rw[pK]at h2;have u:i<2:=cO h2<|gW hd;obtain⟨j,P⟩:=Ly<|gW u;have hjj:∀H,H+(i+1)<=2->H<=j:=λH h=>er (a:=i) (by rw[←P,kY];exact BZ h)
 have C:fI (b+1+3*j+3) N:=C (j+1) (bW (by rw[BY,kY j,←P]))
 have I:TI c l w i:=I;have Z:0<w.length:=QZ (n:=i)<|cO u<|I.O3▸aR (jC 2) hP1;have gY:∀(p:O) (x:O),((p::r)++[x,O.a7<|w.map nm])[8+1]? =aA (.a7 (w.map nm)):=λp x=>eQ (s p) 1 rfl;have gX:∀(p:O) (y:O),((p::r)++[O.a7 (l.map Ag),y])[8+0]? =aA (.a7 (l.map Ag)):=λp y=>eQ (s p) 0 rfl;refine lR (gY N _) rfl (pU (kO<|gY N _) (aN (λk:Nat=>aA<|V.a5 k)<|bP _) (nV (b:=b+1+3*j+2) (r:=r++[O.a7 (l.map Ag),O.a7<|w.map nm]) C Z λA J z T5=>XK (i:=A) (x:=nm w[A]) (gY z _) (by rw[jW,iA J];rfl) (wE (s z) 1 _) ?_))
 rw[NL];refine lR (gX z _) rfl<|nV (b:=b+1+3*j+1) (r:=r++[O.a7 (l.map Ag),O.a7<|(w.eraseIdx A).map nm]) (m:=2) T5 (gM _) λd6 hd6 o6 T6=>qL (Ey (b:=1))<|nV (b:=b+1+3*j) (r:=r++[O.a7 (l.map Ag),O.a7<|(w.eraseIdx A).map nm]) (m:=3) T6 (gM _) λd7 hd7 Y T7=>oQ (gX Y _) (yH<|aR (bW I.f7)<|dR u) (wE (s Y) 0 _)<|hn (Y,l++[⟨aQ<|d6=1,d7,w[A]⟩],w.eraseIdx A) _ _ trivial rfl ?_ ⟨λH hj'=>T7.H4<|fG (DA 3<|hjj H hj')<|b+1,I.Q8 J<|gW hd7⟩;rw[gO];rfl;rw[pK]at C I;have I:TI c l w d:=I;have u:d<=2:=gW hd;obtain⟨i1,i2,i3⟩:=I.m0 (t:=t) u;refine nV (b:=b) (r:=r++[O.a7 (l.map Ag),O.a7<|w.map nm]) (m:=3) (C 0<|aR (bW<|jH _) u) (gM _) λd2 hd2 z T5=>pU (kO<|eQ (ext:=[O.a7 (l.map Ag),O.a7<|w.map nm]) (s z) 0 rfl) rfl<|q d2 l hd2 i1 i2 i3 z _ _ T5
end
def mW(l:List Tp):V:= .a7 (l.map bR)
def dQ(L:List Nm)(d:Nm->List Tp):List (V×V):=L.map λr=>(nm r,mW<|d r)
theorem Gw(L:List Nm)(d:Nm->List Tp):(dQ L d).all (λp=>iC p.1)=aB:=Bg (λa=>rfl) L
theorem JM{L:List Nm}{d:Nm->List Tp}{a:Nm}:dF (nm a) (dQ L d)=if a∈L then aA (mW<|d a)else aC:=by unfold dQ;rw[AA (c:=nm) rS]
noncomputable def yD:Nm->Nat|E0=>1|E1=>1|E2=>1|B=>1|D=>2|S=>3|R=>4|_=>0
theorem yp(c:aG)(a:Nm):match c.k9 a with|some b=>yD b<yD a/\bY c b=bY c a/\(bY c a).isSome=aB|none=>(bY c a=aA a\/bY c a=aC)/\∀b∈c.i7 a,yD b<yD a:=by
 have:=qM (λc a=>(match c.k9 a with|some b=>aQ (yD b<yD a/\bY c b=bY c a/\(bY c a).isSome=aB)|none=>aQ<|(bY c a=aA a\/bY c a=aC)/\∀b∈c.i7 a,yD b<yD a)) (λc a=>by simp only[JG];rfl) (by decide+kernel) c a
 cases e:c.k9 a<;>rw[e]at this<;>exact bQ this
def lS(w:Nat)(l:List Tp):V:= .a8 [.a5 (w:Nat),mW l]
section
variable{n b:Nat}{Q:V->aH->Prop}{f:aH}{c:aG}{t:Bool}{d:Nm->List Tp}{L:List Nm}{j:List aP}{a:Nm}
theorem Ue{l:List Tp}(h:∀x∈l,x≠[])(b:l.length<=300):iX 2 (.a7 (l.map bR)) f=aA (.a7 ((gF l).map bR)):=by
 show(match jL (l.map bR)&&aQ ((l.map bR).length<=300)with|true=>rY (mV []<|l.map bR)|false=>aC)=_
 rw[show jL (l.map bR)=aB by unfold jL;rw[IS h];rfl,bP,cU b]
 show rY (mV (([]:List Tp).map bR)<|l.map bR)=_;rw[Xk LV];show gI (jL<|(iP [] l).map bR) (.a7 (nY<|(iP [] l).map bR))=_;rw[(Eo l).1];exact mJ (by unfold jL;rw[IS λx a=>h x<|((Eh ..).mp a).resolve_left sJ];rfl)
theorem aPI{a:Type} [DecidableEq a](l:List a):∀acc:List a,(acc++l).Nodup->iP acc l=acc++l:=by
 induction l with
 |nil=>exactλacc e=>(fS acc).symm
 |cons x r b=>intro acc h;rw[GQ λc=>(DC.mp h).2.2 x c x (.head _) rfl,b _ (by rw[dK];exact h),dK];rfl
theorem aO2{l:List Tp}(h:∀x∈l,x≠[])(a:l.Nodup):iX 1 (.a7 (l.map bR)) f=aA (.a7 ((gF l).map bR)):=by have:=(Eo l).1;rw[aPI l [] a]at this;show gI (jL<|l.map bR) (.a7 (nY<|l.map bR))=_;rw[←this];exact mJ (by unfold jL;rw[IS h];rfl)
theorem IZ{a:Type}{g:a->V}{A B:List a}(b:A.length+B.length<=cF):nL .Add (.a7 (A.map g)) (.a7 (B.map g)) f=aA (.a7 ((A++B).map g)):=by rw[gO];exact mJ (cU (by rw[cM,bP,bP];exact b))
theorem Ep(b:a∈bK c t):rQ (.b7 (dQ (bK c t) d)) (nm a) f=aA (mW<|d a):=
 (show qK (.b7 (dQ (bK c t) d)) (nm a)=_ by dsimp only[qK];rw[show dY (nm a) (dQ (bK c t) d)=aB from jT (Gw _ _)]).trans (JM.trans<|bO b)
theorem Zw:dZ .In (nm a) (.b7 (dQ L d)) f=aA (aQ<|a∈L):=by refine(uN (x:=nm a)<|jT<|Gw ..).trans (aN aA ?_);rw[JM];by_cases h:a∈L;rw[bO h,cU h];rfl;rw[bH h,fM h];rfl
theorem aM4(X:f[1]? =aA (.b7 (fF c c.i0)))(J:dV (bK c t) d):∀(k:Nat) {n:Nat} {Q:V->aH->Prop} {a:Nm},a∈aY c t->yD a<k->Q (mW<|eY c d a) f->WC (n+k) 4799 [.a9 1,.b7 (dQ (bK c t) d),nm a] f Q:=by
 intro k;induction k with
 |zero=>intro n Q a A y;exact aZ y<|uP _
 |succ k Z=>
  intro n Q a A y q;have u:=rO.mp A;have w:=yp c a;have y:=gW y;change WC (n+k+1) _ _ _ _;refine wc aGG rfl<|dL Zw (λe=>wP.of (Ep<|bQ e) ?_) λe=>wP.of (xQ X u)<|wP.of rfl<|dL (Bv (c.k9 a) aC) (λC=>wP.of (xQ X u)<|wP.of rfl ?_) λC=>wP.of (xQ X u)<|wP.of (v:=Ay c a) rfl ?_;unfold eY tD at q;rw[Cq (bQ (jA.mp<|bQ e).2),QT,(J.b9 a).M6]at q;exact q;cases r:c.k9 a with
  |none=>rw[r]at C;injection C
  |some p=>
   rw[r]at w;rw[show sR c a=nm p by unfold sR;rw[r];rfl]
   obtain⟨x,F⟩:=wR.mp w.2.2;have Y:eY c d a=eY c d p:=by unfold eY tD;rw[Cq F,Cq<|w.2.1.trans F]
   exact Z (PO A r) (cO w.1 y) (Y▸q)
  cases r:c.k9 a with
  |some p=>rw[r]at C;injection C
  |none=>
   rw[r]at w;have H:bY c a=aC:=w.1.resolve_left λY=>pM e<|jA.mpr ⟨(qH c t).i7 a A,cU Y⟩;have s:=λb=>nI (c:=c) J.f7 b;refine cH.of (l:=(c.i7 a).map nm) rfl<|gR 4 (λi m o=>[aA (.a9 1),aA<|.b7 (dQ (bK c t) d),aA<|nm a,aA<|mW<|((c.i7 a).take i).flatMap<|eY c d,o 0]) (λm m=>f) (λm m=>True) () rfl rfl trivial (λi b m o K' hi m hn=> ?_) λm o m=> ?_;have z:=fT hi;refine Z (Gm A z) (cO (w.2 b z) y)<|wP.of (IZ<|vW<|iR (aR (tE λb m=>s b)<|BQ 9<|pD<|Kg c a)<|s b)<|hn () _ _ trivial ?_ rfl trivial;rw[Nv hi];rfl;rw[oO];have I:∀x∈(c.i7 a).flatMap (eY c d),x≠[]:=λx F=>(jZ.mp F).elim λb P=>P.elim λm hb=>Bl (k:=0) (JL J.b9 b) x hb;refine wP.of (Ue I<|aR (tE λb m=>s b)<|lX (BQ 9<|Kg c a) rfl) ?_;have e4:gF ((c.i7 a).flatMap<|eY c d)=eY c d a:=by unfold eY;rw[Tt H];exact Of λx=>jZ.trans<|Iff.trans ⟨λM=>M.elim λb N=>N.elim λh g=>⟨b,h,oA.mp g⟩,λK=>K.elim λb L=>L.elim λh g=>⟨b,h,oA.mpr g⟩⟩ jZ.symm
   rw[e4];exact q
theorem aKG(a:Nm):yD a<5:=by cases a<;>exact bV rfl
theorem Pk(g:f[1]? =aA (.b7 (fF c c.i0)))(e:dV (bK c t) d){a:Nm}(b:a∈aY c t)(q:Q (mW<|eY c d a) f):WC (n+5) 4799 [.a9 1,.b7 (dQ (bK c t) d),nm a] f Q:=aM4 g e 5 b (aKG a) q
theorem mh(e:f[1]? =aA (.b7 (fF c c.i0)))(g:dV (bK c t) d)(b:a∈aY c t)(q:Q (lS 1<|eY c d a) f):WC (n+6) 4899 [.a9 1,.b7 (dQ (bK c t) d),.a9 2,kE<|nm a] f Q:=
 wc Gh rfl (wP.of rfl (cI (by rfl') (wP.of rfl<|gL (pX _)<|wP.of rfl<|gL (jG rfl (iJ e)<|Zr.trans<|aN aA<|cU<|rO.mp b)<|mI<|wP.of rfl<|Pk e g b q)))
theorem aIJ(q:Q (lS 1 []) f):WC (n+1) 4899 [.a9 1,.b7 (dQ (bK c t) d),.a9 2,vV .h9] f Q:=
 wc Gh rfl (wP.of rfl (gL (by rfl') (wP.of rfl<|gL (pX _) q)))
theorem aHG(b:dV (bK c t) d)(h:(d T++d U++d E).Nodup)(q:Q (lS 1<|zV c d .u8) f):WC (n+1) 4899 [.a9 1,.b7 (dQ (bK c t) d),.a9 2,vV .u8] f Q:=by
 have g:=(qH c t).m8;have i:=iR (b.f7 T)<|b.f7 U;refine wc Gh rfl (wP.of rfl (gL (by rfl') (wP.of rfl (cI (by rfl') (wP.of (Ep (a:=T)<|(g T).mpr<|.inl rfl)<|wP.of (Ep (a:=U)<|(g U).mpr<|.inr (.inl rfl))<|wP.of (IZ<|vW i)<|wP.of (Ep (a:=E)<|(g E).mpr<|.inr (.inr rfl))<|wP.of (IZ<|vW<|cM▸iR i (b.f7 E))<|wP.of (aO2 (λx e=> ?_) h) q)))))
 rcases fU.mp e with e|e
 exact(fU.mp e).elim (Bl (k:=0) (b.b9 T) x) (Bl (k:=0) (b.b9 U) x);exact Bl (k:=0) (b.b9 E) x e
noncomputable def nx:Co->Co
 | .a6 _ k=>k| .a0 _ k=>k| .b9 _ k=>k| .l4 k=>k| .un _ k=>k| .j0 _ k=>k| .f6 _ k=>k| .a8 _ k=>k| .a7 _ k=>k| .b7 _ k=>k| .j6 k=>k| .i6 _ k=>k| .e7 k=>k| .v0 _ k=>k
 | .p1 _ k=>k| .j9 _ _ k=>k| .f9 _ k=>k| .f8 _ k=>k| .u0 _ _ k=>k| .j2 _ k=>k| .i5 _ k=>k| .fr _ _ k=>k| .j8 _ _ _ k=>k|c=>c
def Ci:Nat->Co->Co
 |0,c=>c
 |n+1,c=>Ci n<|nx c
def aEJ:Co:=Ci 13 Ul
theorem Mb{g:aX}{l:List V}{p h:V}{A B:List Tp}{b a:Nat}(s:dZ .In (.d9 g) (.a8 [vS "none",vS "univ"]) f=aA aI)(m:dZ .Eq (.d9 g) (vS "name") f=aA aI)(r:Fg (.v6 2) (.a8 (.d9 g::l))=aA (.a8 [p,h]))
  (o:∀{Q:V->aH->Prop},Q (lS b A) f->WC n 4899 [.a9 1,.b7 (dQ (bK c t) d),.a9 2,p] f Q) (k:∀{Q:V->aH->Prop},Q (lS a B) f->WC n 4899 [.a9 1,.b7 (dQ (bK c t) d),.a9 2,h] f Q)
  (q:aS (WC n) aEJ (Ft aI f Q) [] [aA (.a9 1),aA<|.b7 (dQ (bK c t) d),aA<|.a9 2,aA<|.a8 (.d9 g::l),aA<|.a5 b,aA<|mW A,aA<|.a5 a,aA<|mW B] f):WC (n+1) 4899 [.a9 1,.b7 (dQ (bK c t) d),.a9 2,.a8 (.d9 g::l)] f Q:=by
 refine wc Gh rfl (wP.of rfl (cI s (wP.of rfl (cI m (fQ (wP.of rfl (cI m (wP.of r (cH.of (l:=[(p,lS b A),(h,lS a B)].map (·.1)) rfl (eE (λx:V×V=>x.1) (λx=>[x.2]) (λx i K q=>(dA.mp i).elim (λe=>by rw[e]at q⊢;exact o<|q _) λi=>by rw[dU.mp i]at q⊢;exact k<|q _) ?_))))))))))
 refine wG.of rfl (dS.of (l:=[lS b A,lS a B]) rfl ?_);refine dS.of (l:=[.a5 b,mW A]) rfl ?_;exact dS.of (l:=[.a5 a,mW B]) rfl q
theorem Zp{m p o:V}{A B:List Tp}{g e:Nat}(r:∀{Q:V->aH->Prop},Q (lS g A) f->WC n 4899 [.a9 1,.b7 (dQ (bK c t) d),.a9 2,p] f Q)(h:∀{Q:V->aH->Prop},Q (lS e B) f->WC n 4899 [.a9 1,.b7 (dQ (bK c t) d),.a9 2,o] f Q)
  (w:A.length<=100) (v:B.length<=100) (l:∀x∈A,x.length<=10) (i:∀x∈B,x.length<=10) (q:Q (lS (g+e)<|kR A B) f):WC (n+1) 4899 [.a9 1,.b7 (dQ (bK c t) d),.a9 2,sM m p o] f Q:=by
 refine Mb (by rfl') (by rfl') rfl r h (wP.of rfl (gL (pX _) (wP.of (Jc g e) (cH.of rfl (eE bR (λa=>B.map λb=>bR<|a++b) (λa u K q=>cH.of rfl (eE bR (λb=>[bR (a++b)]) (λb s K q=>wP.of (DJ<|vW<|iR (l a u)<|i b s)<|q _) (by rw[mG];exact q _))) ?_)))))
 rw[show(A.flatMap λa=>B.map λb=>bR<|a++b)=(kR A B).map bR by unfold kR;rw[←AW];exact aN (A.flatMap ·) (funext λa=>by rw[kL];rfl)]
 exact wG.of (fR<|AV (k:=10000) w v rfl) q
theorem ZE{p h:V}{A B:List Tp}{g l:Nat}(o:∀{Q:V->aH->Prop},Q (lS g A) f->WC n 4899 [.a9 1,.b7 (dQ (bK c t) d),.a9 2,p] f Q)(a:∀{Q:V->aH->Prop},Q (lS l B) f->WC n 4899 [.a9 1,.b7 (dQ (bK c t) d),.a9 2,h] f Q)
  (k:A.length<=100) (i:B.length<=100) (e:∀x∈A,x≠[]) (b:∀x∈B,x≠[]) (q:Q (lS g<|gF<|A++B) f):WC (n+1) 4899 [.a9 1,.b7 (dQ (bK c t) d),.a9 2,CW "+" p h] f Q:=
 Mb (by rfl') (by rfl') rfl o a (wP.of rfl (cI (by rfl') (wP.of rfl<|gL (pX _)<|wP.of (IZ<|vW<|iR k i)<|wP.of (Ue (λx m=>(fU.mp m).elim (e x)<|b x)<|cM▸lX (iR k i) rfl) q)))
theorem md{p e:V}{A B:List Tp}{b g:Nat}(h:∀{Q:V->aH->Prop},Q (lS b A) f->WC n 4899 [.a9 1,.b7 (dQ (bK c t) d),.a9 2,p] f Q)(a:∀{Q:V->aH->Prop},Q (lS g B) f->WC n 4899 [.a9 1,.b7 (dQ (bK c t) d),.a9 2,e] f Q)
  (q:Q (lS b A) f):WC (n+1) 4899 [.a9 1,.b7 (dQ (bK c t) d),.a9 2,CW "-" p e] f Q:=
 Mb (by rfl') (by rfl') rfl h a (wP.of rfl (cI (by rfl') (wP.of rfl (cI (by rfl') q))))
end
section
variable{n b:Nat}{Q:V->aH->Prop}{l:aH}{c:aG}{t:Bool}{d:Nm->List Tp}{L:List Nm}{p:List aP}{a:Nm}
theorem Xi(J:l[1]? =aA (.b7 (fF c c.i0)))(o:dV (bK c t) d)(w:(d T++d U++d E).Nodup):∀(ty:Ty) {Q:V->aH->Prop},rN c t ty->Q (lS (sV ty)<|zV c d ty) l->WC (n+8) 4899 [.a9 1,.b7 (dQ (bK c t) d),.a9 2,vV ty] l Q:=by
 have r:=λa=>lX (nI (c:=c) o.f7 a) (k:=100) rfl;have s:=λa=>JL (c:=c) o.b9 a;have A:∀a,∀x∈eY c d a,x.length<=10:=λa x I=>(s a).f7 x I▸bV rfl;have C:=λa=>Bl (k:=0)<|s a;have v:=λa b=>(s a).t0<|s b;have j:=λa b=>AV (k:=100) (nI (c:=c) o.f7 a) (nI (c:=c) o.f7 b) rfl;have i:∀{n a},a∈aY c t->∀{Q:V->aH->Prop},Q (lS 1<|eY c d a) l->WC (n+6) 4899 [.a9 1,.b7 (dQ (bK c t) d),.a9 2,kE<|nm a] l Q:=λ{n a} h {Q} q=>mh J o h q;have u:∀{n a b m},a∈aY c t->b∈aY c t->∀{Q:V->aH->Prop},Q (lS 2<|kR (eY c d a)<|eY c d b) l->WC (n+7) 4899 [.a9 1,.b7 (dQ (bK c t) d),.a9 2,sM m (kE<|nm a)<|kE<|nm b] l Q:=λ{n a b m} h g {Q} q=>Zp (i h) (i g) (r a) (r b) (A a) (A b) q;intro ty Q f q;match ty,f,q with
 | .h9,_,q=>exact aIJ q
 | .u8,_,q=>exact aHG o w q
 | .nm a,f,q=>exact i f q
 | .l6 e,f,_=>exact f.elim
 | .j0 aB a b,f,q=>exact ZE (i f.1) (i f.2) (r a) (r b) (C a) (C b) q
 | .j0 aI a b,f,q=>exact md (i f.1) (i f.2) q
 | .r9 a b,f,q=>exact u f.1 f.2 q
 | .v2 a b x y,f,q=>exact ZE (u f.1.1 f.1.2) (u f.2.1 f.2.2) (j a b) (j x y) (Bl (k:=1)<|v a b) (Bl (k:=1)<|v x y) q
 | .u6 F x y,f,q=>exact Zp (i f.1) (u f.2.1 f.2.2) (r B) (j x y) (A B) (λz H=>(v x y).f7 z H▸bV rfl) q
theorem aBU(e:_root_.Fin 4):dF (.d9 (dT e)) (fF c c.i0)=aC:=Bp<|nA.mpr λa b=>Uy a e
theorem aKU(y:l[1]? =aA (.b7 (fF c c.i0)))(L:l[2]? =aA (.a7 (p.map qG)))(C:dV (bK c t) d)(r:(d T++d U++d E).Nodup)(k:dB c t p){i:Nat}{f:aP}(A:(bX c t p)[i]? =aA f)(q:Q (lS (sV<|mN p f)<|zV c d<|mN p f) l):WC (n+9) 4899 [.a9 1,.b7 (dQ (bK c t) d),.a9 2,f.u7] l Q:=by
 have h:=qH c t;have a:=JJ h.i7 k A;unfold aP.u7;rcases HU f.ty with⟨e,w⟩|m
 obtain⟨j,g,H,I,u,N,m⟩:=k.l6 i f e A w;have v:=(pQ h.i7 k.g8).mp<|fT I;rw[PE k w v u]at q a;rw[w];refine wc Gh rfl (wP.of rfl (cI (by rfl') (wP.of rfl<|gL (pX _)<|wP.of rfl<|cI (jG rfl (iJ y)<|(uN<|jT<|uH ..).trans<|aN (λo:Option V=>aA o.isSome)<|aBU e)<|fQ<|wP.of rfl<|gL (pX _)<|cH.of (Bs L)<|eE qG (λg=>jE (aQ<|g.k=e) g.u7) (λM J K q=>wP.of rfl<|wP.of rfl<|dL (b:=aQ<|M.k=e) (aN aA<|Nq ..) (λz=>wP.of rfl ?_) λz=> ?_) ?_)))
 rw[z]at q;exact q _;rw[z]at q;exact q _;rw[mP,Tn k.nd v (cU u) λx F s=>k.v9 x F g v<|(bQ s).trans u.symm];exact wG.of rfl<|wP.of rfl<|Xi (n:=n) y C r g.ty a q;rw[(FQ (c:=c) (t:=t) m).1]at q a;exact Xi (n:=n+1) y C r _ a q
end
def uJ(c:aG)(d:Nat)(l:List bD)(r:Nm):Bool×Nat:=match lN l r with|some x=>(x.ex,x.w5)|none=>(aQ<|r=E,yM c d r)
theorem MO{l:List bD}{r:Nm}{x:bD}(h:lN l r=aA x):x∈l/\x.g8=r:=⟨QW h,bQ<|aRP (p:=λx:bD=>aQ<|x.g8=r) h⟩
theorem XB{l:List bD}(d:(l.map (·.g8)).Nodup){j:Nat}{x:bD}(c:l[j]? =aA x)(r:Nm):lN (l.take<|j+1) r=(if x.g8=r then aA x else lN (l.take j) r)/\(x.g8=r->lN (l.take j) r=aC):=by
 have b:x.g8=r->lN (l.take j) r=aC:=λa=>by
  cases h:lN (l.take j) r with
  |none=>rfl
  |some y=>obtain⟨f,e⟩:=MO h;exact aZ (aRM▸gJ.mpr ⟨y,f,e.trans a.symm⟩) (xL d (i:=j) (y:=x.g8) (by rw[jW,c];rfl))
 refine⟨?_,b⟩;unfold lN at b⊢;rw[tP,c,List.find?_append];by_cases a:x.g8=r;rw[b a,bO a];exact List.find?_cons_of_pos (p:=λx:bD=>aQ<|x.g8=r)<|cU a;rw[bH a,show(aA x).toList.find? (λx=>aQ<|x.g8=r)=aC from List.find?_cons_of_neg (p:=λx:bD=>aQ<|x.g8=r) λh=>a<|bQ h,Option.or_none]
theorem Uh{c:aG}{d:Nat}{l:List bD}(a:(l.map (·.g8)).Nodup){j:Nat}{x:bD}(b:l[j]? =aA x)(r:Nm):uJ c d (l.take<|j+1) r=if x.g8=r then(x.ex,x.w5)else uJ c d (l.take j) r:=by unfold uJ;rw[(XB a b r).1];by_cases h:x.g8=r;rw[bO h,bO h];rw[bH h,bH h]
theorem Xs{c:aG}{d:Nat}{l:List bD}(f:∀x∈l,x.g8≠E)(r:Nm):vB c d l r=if r=T/\c.mT=3 then(aB,1)else if r=T/\c.mT=2 then((uJ c d l r).1,tI (uJ c d l r).2 1)else uJ c d l r:=by
 unfold vB zU uJ;cases b:lN l r with
 |none=>
  by_cases a:r=E
  subst a;rfl;rw[fM a];rfl
 |some x=>obtain⟨h,g⟩:=MO b;rw[fM λe=>f x h<|g.trans e,aVA]
theorem aEE(c:aG){r:Nm}(h:r=T\/r=U\/r=E){w:aH}:dZ .In (c.t7 r) (.a8 [vS "lone",vS "one"]) w=aA (aQ<|r=T/\(c.mT=2\/c.mT=3)):=by
 obtain⟨m,a,d,b,s,r⟩:=c;rcases h with e|e|e<;>subst e
 match m with
 |0=>rfl'
 |1=>rfl'
 |2=>rfl'
 |3=>rfl'
 rfl'
 rfl'
theorem Wv(l:List Nm)(r:Nm)(a:Nm->List Tp):dQ (l++[r]) a=dQ l a++[(nm r,mW<|a r)]:=gO ..
theorem Wb{L:List Nm}{c:Nm->List Tp}{a:Nm}(h:a∉L):∀p∈dQ L c,cN p.1 (nm a)=aI:=nA.mpr λb d=>(rS _ _).trans<|fM λe=>h<|e▸d
theorem RQ(g:Nm->Nat):∀(l:List Nm) (r:Nm),lK g (l++[r])=lK g l+g r
 |[],r=>kY ..
 |a::l,r=>(aN (g a+·)<|RQ g l r).trans (kX ..).symm
theorem aNO{w:aH}{C:cR}{K:PF}{k:qW}{x y:V}{A B d:Co}{L:Lc}{b:Bool}(P:Lc->Prop)(h:dZ k x y w=aA b)(t:b=aB->∀c:PF,(∀a,P a->c .e9 a w)->aS C A c [] L w)(f:b=aI->∀c:PF,(∀a,P a->c .e9 a w)->aS C B c [] L w)(q:∀a,P a->aS C d K [] a w):wP (xR<|dZ k x y w) (aS C (.br A B)<|rU (aS C d K) K) [] L w:=
 dL h (λe=>t e _ q) λe=>f e _ q
section
variable{n b:Nat}{Q:V->aH->Prop}{w:aH}{c:aG}{t:Bool}{d:Nat}{u:List bD}
theorem aHK{L:List Nm}{b:Nm->List Tp}{a:Nm}(h:a∈L):qK (.b7 (dQ L b)) (nm a)=aA (mW<|b a):=by dsimp only[qK];rw[show dY (nm a) (dQ L b)=aB from jT (Gw _ _)];exact JM.trans<|bO h
theorem aL8(h1:w[1]? =aA (.b7 (fF c c.i0)))(hl:mA c t u)(hE:∀x∈u,x.g8≠E)(hT:AU c u)(h3:∀a,gN c d u a<=3)(q:Q (.a8 [.b7 (dQ (bK c t)<|cQ c t d u),.b7 (dQ (bK c t)<|iK c t d u)]) w):WC (n+1) 4699 [.a9 1,sZ d u,.a7 ((bK c t).map nm)] w Q:=by
 have y:=qH c t;have htl:(bK c t).length<=10:=aR (lA ..) y.f7;have hnd:(bK c t).Nodup:=y.nd.filter _;refine wc aFR rfl<|wP.of rfl<|wP.of rfl<|oR (ext:=[O.b7 []]) rfl rfl<|dS.of rfl<|cH.of rfl<|gR 6 (λi g o=>[aA (.a9 1),aA<|sZ d u,aA<|.a7 ((bK c t).map nm),aA<|.a9 (w.length+0),aA<|.a9 (w.length+1),aA<|.a5 (lK (gN c d u) ((bK c t).take i):Nat),o 0,o 1,o 2,o 3]) (λi g=>w++[O.b7 (dQ ((bK c t).take i)<|cQ c t d u),O.b7<|dQ ((bK c t).take i)<|iK c t d u]) (λg g=>True) () rfl rfl trivial (λi r g o C hb g Z=> ?_) λg o g=> ?_;have N:=fT hb;have X:=(y.m8 r).mp N;have J:=rO.mp<|y.e7 _ (jA.mp N).1;have z:=xL hnd hb;have hm:bK c t=(bK c t).take i++r::(bK c t).drop (i+1):=by rw[←(iU.mp hb).2,List.getElem_cons_drop,EG]
 have Z:=Z ();rw[tP,hb]at Z;have hPl:((bK c t).take i).length<=10:=pD htl;have H:mK (gN c d u) (bK c t) r=lK (gN c d u) ((bK c t).take i):=by unfold mK;exact aN _<|(aN _ hm).trans<|UQ z
 generalize(bK c t).take i=P at Z z hPl H⊢;have g1:(w++[O.b7 (dQ P<|cQ c t d u),O.b7<|dQ P<|iK c t d u])[1]? =aA (.b7 (fF c c.i0)):=dN h1;have hEn:(c.i0.filter λa=>aQ<|c.k9 a=aA E).length=if c.nE then 3 else 2:=bQ (He (λc=>aQ ((c.i0.filter λa=>aQ<|c.k9 a=aA E).length=if c.nE then 3 else 2)) (λg=>rfl) (by decide+kernel) c)
 have de:aQ (aA r=aA E)=aQ (r=E):=decide_eq_decide.mpr ⟨aV,aN aA⟩;refine Jj (λv=>v= .a5 (yM c d r:Nat)) (tS (aA r)<|aA E) (λe C q=> ?_) (λe C q=> ?_) λv e=> ?_;refine cH.of (GW c c.i0▸MV g1 (uH ..))<|eE nm (λa=>jE (aQ<|c.k9 a=aA E)<|nm a) (λa ha K q=>wP.of (xQ g1 ha)<|wP.of rfl<|sN (tS (c.k9 a)<|aA E)<|q _) ?_;rw[mP];refine wG.of (fR (k:=3) (by rw[hEn];split;exact bT 3;exact jC 2)) (wP.of (aN (λk:Nat=>aA<|V.a5 k)<|bP _)<|q _ ?_)
 rw[hEn];unfold yM;rw[bO (aV<|bQ e)];exact wP.of rfl (q _ (by unfold yM;rw[bH λh=>pM e<|aN aA h]))
 subst e;refine qL ((tS (aA r)<|aA E).trans<|aN aA de)<|wP.of rfl<|cH.of rfl<|gR 7 (λj g o=>[aA (.a9 1),aA<|sZ d u,aA<|.a7 ((bK c t).map nm),aA<|.a9 (w.length+0),aA<|.a9 (w.length+1),aA<|.a5 (lK (gN c d u) P:Nat),aA<|nm r,o 0,aA<|.a5 ((uJ c d (u.take j) r).2:Nat),aA<|.e8 (uJ c d (u.take j) r).1]) (λg g=>w++[O.b7 (dQ P<|cQ c t d u),O.b7<|dQ P<|iK c t d u]) (λg g=>True) () rfl rfl trivial (λj x g o C hj g Y=> ?_) λg o g=> ?_;refine wP.of rfl<|dL (tS (aA x.g8)<|aA r) (λe=>wP.of rfl<|wP.of rfl<|dS.of rfl<|Y () _ _ trivial ?_ rfl trivial) λe=>Y () _ _ trivial ?_ rfl trivial;rw[Uh hl.nd hj,bO<|aV<|bQ e];rfl;rw[Uh hl.nd hj,bH λh=>pM e<|aN aA h];rfl;rw[oO];obtain⟨m1,_⟩:=YB (f:=w++[O.b7 (dQ P<|cQ c t d u),O.b7<|dQ P<|iK c t d u]) (c:=c) X;have f:=Xs (c:=c) (d:=d) hE r;refine wP.of (xQ g1 J)<|wP.of (v:=c.t7 r) rfl<|aNO (λL'=>L'=[aA (.a9 1),aA<|sZ d u,aA<|.a7 ((bK c t).map nm),aA<|.a9 (w.length+0),aA<|.a9 (w.length+1),aA<|.a5 (lK (gN c d u) P:Nat),aA<|nm r,o 0,aA<|.a5 ((vB c d u r).2:Nat),aA<|.e8 (vB c d u r).1]) (aEE c X) (λe C q=>wP.of (xQ g1 J)<|wP.of (v:=c.t7 r) rfl<|qL m1<|wP.of (xQ g1 J)<|wP.of (v:=c.t7 r) rfl<|Jj (λv=>v= .a5 ((vB c d u r).2:Nat)) m1 (λe3 C q=> ?_) (λe3 C q=> ?_) λv ev=> ?_) (λe C q=>q _ ?_) λL' e=> ?_;rw[bO (bQ e3)]at f;exact q _ (by rw[f];rfl)
 obtain⟨L,s⟩:=bQ e;rw[bH (pM e3),bO ⟨L,s.resolve_right λh=>pM e3 ⟨L,h⟩⟩]at f;exact wP.of (XF _) (q _ (by rw[f]))
 subst ev;refine dS.of rfl<|q _ ?_;obtain⟨L,s⟩:=bQ e;rw[show aQ (r=T/\c.mT=3)=(vB c d u r).1 by
  by_cases h:r=T/\c.mT=3
  rw[bO h]at f;rw[f,cU h];rw[bH h,bO ⟨L,s.resolve_right λh'=>h ⟨L,h'⟩⟩]at f;rw[f,fM h];unfold uJ;cases hf:lN u r with
  |none=>exact(fM λe4=>by have:=L.symm.trans e4;injection this).symm
  |some x=>
   have:=hT (by unfold EB;rw[←L,hf];rfl)
   rcases s with s|s<;>rw[s]at this<;>rcases this with h|h<;>cases h]
 rfl;have I:=pM e;rw[bH (λh=>I ⟨h.1,.inr h.2⟩),bH λh=>I ⟨h.1,.inl h.2⟩]at f;rw[f];subst e;have hg:=h3 r;refine wG.of (BH (a:=0) (eO _)<|aR hg<|bV rfl)<|eE (l:=eW<|gN c d u r) (λk=> .a5 (0+(k:Int))) (λk=>[bR [mK (gN c d u) (bK c t) r+k]]) (λk hk K q=>wP.of (v:= .a5 ((lK (gN c d u) P+k:Nat):Int)) (aN (λi=>aA<|V.a5 i)<|aN _<|Ca _) ?_) ?_;rw[H]at q;exact q _;rw[mG,show((eW<|gN c d u r).map λk=>bR [mK (gN c d u) (bK c t) r+k])=(cQ c t d u r).map bR by unfold cQ tT;rw[kL];rfl]
 have M:∀p,dY (nm r) (dQ P p)=aB:=λp=>jT<|Gw _ _;have F:∀p,(dQ P p).length<=1000:=λp=>aR (bW<|bP _)<|lX hPl rfl;refine wG.of (fR (k:=3) (by unfold cQ;rw[Cv];exact hg)) (wP.of (v:= .a5 (lK (gN c d u) (P++[r]):Nat)) (aN (λk:Nat=>aA<|V.a5 k) (RQ ..).symm)<|dS.of rfl<|Kj (k:=0) rfl (M _) (F _) (Wb z) ?_)
 rw[show dQ P (cQ c t d u)++[(nm r,V.a7<|(cQ c t d u r).map bR)]=dQ (P++[r]) (cQ c t d u)from(Wv ..).symm];have m1:(w++[O.b7 (dQ (P++[r])<|cQ c t d u),O.b7<|dQ P<|iK c t d u])[w.length+0]? =aA (.b7 (dQ (P++[r])<|cQ c t d u)):=eQ rfl 0 rfl;refine CM<|OM (mW<|iK c t d u r) rfl (λe C q=> ?_) (λe C q=> ?_)<|Kj (k:=1) rfl (M _) (F _) (Wb z) ?_;have s:mW (cQ c t d u r)=mW (iK c t d u r):=by unfold iK;rw[e];rfl
 exact Bn (iJ m1) ((aHK<|kM _<|.head _).trans<|aN aA s) q;have s:V.a7 []=mW (iK c t d u r):=by unfold iK;rw[e];rfl
 rw[←s]at q;exact q;rw[←Wv];exact Z _ _ trivial rfl rfl trivial;rw[oO];have fz:∀{w:aH} {k m:Nat} (A:List Tp),gG w m (k+3) (mW A)=aA (mW A):=λA=>aN (hV V.a7)<|Bd<|nA.mpr λx g=>Vr x;refine⟨⟨_,rfl⟩,.a8 [.b7 (dQ (bK c t)<|cQ c t d u),.b7 (dQ (bK c t)<|iK c t d u)],?_,q⟩;have a1:∀k,gG (w++[O.b7 (dQ (bK c t)<|cQ c t d u),O.b7<|dQ (bK c t)<|iK c t d u]) w.length (k+4) (.a9 (w.length+0))=_:=λk=>KD (dI ..) (eQ rfl 0 rfl)<|nA.mpr λg g=>fz _;have a2:∀k,gG (w++[O.b7 (dQ (bK c t)<|cQ c t d u),O.b7<|dQ (bK c t)<|iK c t d u]) w.length (k+4) (.a9 (w.length+1))=_:=λk=>KD (dI ..) (eQ rfl 1 rfl)<|nA.mpr λg g=>fz _;show((gG _ w.length 49<|.a9 (w.length+0)).bind λa=>((gG _ w.length 49<|.a9 (w.length+1)).bind λb=>(aA []:Option (List V)).map λd=>b::d).map λd=>a::d).map V.a8=_;rw[a1 45,a2 45];rfl
end
theorem aA5{c:aG}{t b:Bool}:∀{ty:Ty},rN c t ty->rN c b ty:=by
 have m:∀{a:Nm},a∈aY c t->a∈aY c b:=λh=>rO.mpr<|rO.mp h;intro ty h;match ty,h with
 | .h9,_=>trivial
 | .u8,_=>trivial
 | .nm a,h=>exact m h
 | .l6 _,h=>exact h
 | .j0 _ _ _,h=>exact⟨m h.1,m h.2⟩
 | .r9 _ _,h=>exact⟨m h.1,m h.2⟩
 | .v2 _ _ _ _,h=>exact⟨⟨m h.1.1,m h.1.2⟩,m h.2.1,m h.2.2⟩
 | .u6 _ _ _,h=>exact⟨m h.1,m h.2.1,m h.2.2⟩
theorem FI.G0{c:aG}{t b:Bool}{o:List aP}{m:Nat}(h:FI c t o m):FI c b o m:=⟨h.r8,h.lt,λf a=>rO.mpr<|rO.mp<|h.g8 f a,λf a d=>aA5<|h.ty f a d,h.l6⟩
theorem OS{c:Type}{k:c->aX}{g:c->V}:∀(l acc:List c),((acc++l).map k).Nodup->yE (l.map λa=> .a8 [.d9 (k a),g a]) (acc.map λa=>(V.d9<|k a,g a))=aA ((acc++l).map λa=>(V.d9<|k a,g a))
 |[],acc,_=>by rw[fS];rfl
 |a::l,acc,h=>by
  have d:=h;rw[gO,DC]at d;have f:∀p∈acc.map λa=>(V.d9<|k a,g a),cN p.1 (.d9 (k a))=aI:=nA.mpr λb i=>(Pg _ _).trans<|fM λe=>d.2.2 _ (LG i) _ (LG<|.head _) e;show(match dY (.d9 (k a)) (acc.map λa=>(V.d9<|k a,g a))with|true=>yE (l.map λa=> .a8 [.d9 (k a),g a]) (gV (.d9 (k a)) (g a)<|acc.map λa=>(V.d9<|k a,g a))|false=>aC)=_
  rw[jT (Bg (λj=>rfl) acc),xG f];have:=OS (k:=k) (g:=g) l (acc++[a]) (by rw[dK];exact h)
  rwa[gO,dK]at this
structure LS(c:aG)(t:Bool)(d:Nat)(l:List bD)(o:List aP)(w s:List V)(n:aH):Prop where
 g1:n[1]? =aA (.b7 (fF c c.i0))
 g2:n[2]? =aA (.a7 (o.map qG))
 b:n[25]? =aA (.g9 16 bF)
 L5:n[26]? =aA (.a7 (nM c t d l o))
 F9:n[22]? =aA (.a7 (jK c l<|bE c t))
 x6:n[29]? =aA (.a7 w)
 fo:n[30]? =aA (.a7 s)
 f7:n.length=31
theorem VP{c:aG}{d:Nat}{l:List bD}{t:Bool}(e:d<3)(g:mA c t l)(f:∀x∈l,x.g8≠E)(r:Nm):gN c d l r<=3:=by
 have a:(uJ c d l r).2<=3:=by
  unfold uJ;cases b:lN l r with
  |none=>show yM c d r<=3;unfold yM;split;split;exact bT 3;exact jC 2;exact dR e
  |some x=>exact uS (g.ok x (MO b).1).2.2
 unfold gN;rw[Xs f];split;exact bV rfl;split;exact aR (QR ..) a;exact a
theorem aBN(a:Nm):tV (nm a) [vS "T",vS "U",vS "E"]=aA (aQ<|a=T\/a=U\/a=E):=bQ (nS (p:=λa=>aQ<|tV (nm a) [vS "T",vS "U",vS "E"]=aA (aQ<|a=T\/a=U\/a=E)) (by decide+kernel) a)
theorem vk(c:aG)(t:Bool):(bE c t).filter (λa=>aQ<|a=T\/a=U\/a=E)=bK c t:=by have h:=(qH c t).m8;unfold bK at h⊢;exact aRS λa b=>Dp.mpr (decide_eq_true_iff.trans ((h a).symm.trans (jA.trans ⟨(·.2),λx=>⟨b,x⟩⟩)))
theorem aCK{c:aG}{l:List bD}(b:(l.map (·.g8)).Nodup){j:Nat}{x:bD}(d:l[j]? =aA x)(r:Nm)(i:Nat):sS c (l.take<|j+1) r i=sS c (l.take j) r i++(if x.g8=r then(if bY c r=aA r then []else [V.a8 [.d9 (Bw r),Bq x i]])else []):=by obtain⟨f,e⟩:=XB b d r;unfold sS;rw[f];by_cases a:x.g8=r;rw[bO a,bO a,e a];rfl;rw[bH a,bH a,fS]
section
variable{c:aG}{t:Bool}{d:Nat}{l:List bD}{o:List aP}{w s u y:List V}{n:aH}
theorem LS.L8(k:LS c t d l o w s n):LS c t d l o u s (n.set 29<|.a7 u):=
 ⟨fN k.g1<|iD rfl,fN k.g2<|iD rfl,fN k.b<|iD rfl,fN k.L5<|iD rfl,fN k.F9<|iD rfl,yL k.x6,fN k.fo<|iD rfl,Hl.trans k.f7⟩
theorem LS.R5(k:LS c t d l o w s n):LS c t d l o w y (n.set 30<|.a7 y):=
 ⟨fN k.g1<|iD rfl,fN k.g2<|iD rfl,fN k.b<|iD rfl,fN k.L5<|iD rfl,fN k.F9<|iD rfl,fN k.x6<|iD rfl,yL k.fo,Hl.trans k.f7⟩
end
theorem aEA(a:Nm){n:aH}:nL .Add (vS "scope ") (nm a) n=aA (.d9 (Bw a)):=by cases a<;>rfl'
def Nr:Co:=Ci 42 Oa
section
variable{n:Nat}{Q:V->aH->Prop}{K:PF}
theorem mo{a:aH}(i:Int):iX 6 (.a5 i) a=aA (.a5 (i.natAbs:Nat)):=aN (λi=>aA<|V.a5 i) (by by_cases h:i<0;exact(bO h).trans (Int.ofNat_natAbs_of_nonpos<|bb h).symm;exact(bH h).trans (Int.natAbs_of_nonneg<|EK.mp h).symm)
noncomputable def Od:Nat->Lc
 |0=>[]
 |n+1=>aC::Od n
theorem aJS{a:aH}{C:cR}{i:Nat}{A B d:Co}{g:List V}{L:Lc}{b:Bool}(P:V->Prop)(h:lg i L=aA (.e8 b))(t:b=aB->∀c:PF,(∀v,P v->c (.b8 v) L a)->aS C A c [] L a)(f:b=aI->∀c:PF,(∀v,P v->c (.b8 v) L a)->aS C B c [] L a)(q:∀v,P v->aS C d K (v::g) L a):aS C (.j2 (.a0 i (.br A B)) d) K g L a:=by show wL (lg i L) (aS C (.br A B)<|CD (aS C d K) g) [] L a;rw[h];exact vK (λe=>t e _ q) λe=>f e _ q
theorem p1{w:List Int}(hi:w.length<=63)(q:∀(c:aG) (t:Bool) (d:Nat) (l:List bD) (s:List aP) (F:List (Nat×V)) (Q:V) (u:aH),u.length=10->SA c t s F u->u[1]? =aA (.b7 (fF c c.i0))->u[2]? =aA (.a7 (s.map qG))->FI c t s 4->d<3->mA c t l->AU c l->(∀x∈l,x.g8≠E)->aS (WC<|n+9) Nr K [] ([aA (.a7 (w.map .a5)),aA<|.a9 0,aA<|.a9 1,aA<|.a9 2,aA<|.e8 t,aA<|.a9 3,aC,aA Q,aA<|.a7 ((bE c t).map nm),aA<|sZ d l]++Od 17) u):aS (WC<|n+9) Oa K [] (CC 27 [.a7 (w.map .a5)]) []:=by
 refine wP.of (v:= .a7 ((w.take 60).map .a5)) (by rw[aRM];rfl) (cH.of rfl<|eE V.a5 (λi=>[.a5 (i.natAbs:Nat)]) (λi L K q=>wP.of (mo i)<|q _) ?_)
 rw[mG,show((w.take 60).map λi:Int=>V.a5 (i.natAbs:Nat))=((w.take 60).map aRU).map λx=>V.a5 (x:Nat) by rw[kL];rfl]
 have j:((w.take 60).map aRU).length<=60:=by rw[bP];exact aVB ..
 generalize(w.take 60).map aRU=J at j;refine wG.of (fR j) (wP.of (v:= .b7 [(vS "cells",.a7 (J.map λx=> .a5 (x:Nat))),(vS "spot",.a5 (0:Nat))]) (by rfl') (aO9 (b:=54) (o:=BG J 0) ⟨J,0,rfl,bV rfl,j⟩ λc o1 T1=> ?_))
 have C:=qH c aI;have H:2<=c.i0.length:=bQ (He (λc=>aQ<|2<=c.i0.length) (λL=>rfl) (by decide+kernel) c)
 have N:∀{u:aH},u[1]? =aA (.b7 (fF c c.i0))->iX 5 (.a9 1) u=aA (.a7 (c.i0.map nm)):=λg=>Px (iJ g)<|(mJ<|uH ..).trans<|aN (λl=>aA<|V.a7 l)<|GW ..;refine wP.of (N rfl)<|aAT (b:=13) C.nd C.i7 H (λa I=>rO.mpr I) (tj c aI) T1 λs h0 o2 T2=>nV (b:=12) (r:=[.b7 (fF c c.i0),.a7 (s.map qG)]) (m:=2) T2 (gM _) λd1 Z Y T3=>qL (Ey (b:=1)) ?_;generalize aQ (d1=1)=t;have P:FI c t s 4:=h0.G0;have A:=qH c t;have M:dB c t s:=P.m0 A.nd A.i7;refine dS.of rfl<|aEH M.f7<|Kk (p:=3) rfl rfl<|aAF M λF z f=>CM<|aJS (λv=>∀ext,TV c t v<|[Y,.b7 (fF c c.i0),.a7 (s.map qG),.g9 36 F,.b7 (kV c t s),.a7 ((aY c t).map nm),.a7 [.a8 [vS "o",nm E]],.b7 z]++ext) rfl (λe K' q=> ?_) (λe K' q=> ?_) λv X=> ?_;subst e;refine wP.of (N rfl)<|wP.of (v:= .a7 ((aY c aB).map nm)) (aN (λl=>aA<|V.a7 l) (aU7 ..).symm)<|cH.of rfl<|eE nm (λa=>[.a8 [nm a,Aq c a]]) (λa I K q=>wP.of (xQ (p:=1) rfl<|rO.mp I)<|q _) ?_;rw[mG];exact wG.of (fR<|DS c aB)<|wP.of (aN (hV V.b7)<|OS (k:=iO) (g:=Aq c) (aY c aB) []<|aW2 _ (λa b h e=>h<|PG e)<|Mc c aB)<|q _ λL=>gz;subst e;exact q _ λext=>aJU rfl;refine aM1 X<|aAP (b:=4) rfl rfl T3 λd l hd h1 h2 h3 o4 x y T4=>dS.of rfl<|q c t d l s F v _ rfl ⟨⟨f.X.o,f.X.ke,f.X.ks,f.X.e,f.X.s⟩,f.ko,f.kw,f.kp,f.k6⟩ rfl rfl P hd h1 h2 h3
def OE:Co:=Ci 27 Nr
def xM(a e:V)(c:aG)(t:Bool)(d:Nat)(l:List bD)(f:List aP)(b:Option V)(o:Nat->Option V):Lc:=[aA a,aA<|.a9 0,aA<|.a9 1,aA<|.a9 2,aA<|.e8 t,aA<|.a9 3,b,aA e,aA<|.a7 ((bE c t).map nm),aA<|sZ d l,aA<|.a9 25,aA<|.b7 (gH<|(nM c t d l f).map xS),aA<|.a9 22,aA<|.b7 (dQ (bK c t)<|cQ c t d l),aA<|.b7 (dQ (bK c t)<|iK c t d l),aA<|.a9 29,aA<|.a9 30,o 0,o 1,o 2,o 3,o 4,o 5,o 6,o 7,o 8,o 9]
theorem p2{c:aG}{t:Bool}{d:Nat}{l:List bD}{i:List aP}{F:List (Nat×V)}{j:aH}{r o:V}(h:j.length=10)(f:SA c t i F j)(N:j[1]? =aA (.b7 (fF c c.i0)))(M:j[2]? =aA (.a7 (i.map qG)))(J:FI c t i 4)(C:d<3)(p:mA c t l)(w:AU c l)(u:∀x∈l,x.g8≠E)
  (q:∀m,LS c t d l i [] [] m->aS (WC<|n+35) OE K [] (xM o r c t d l i aC λQ=>aC) m):
  aS (WC<|n+35) Nr K [] ([aA o,aA<|.a9 0,aA<|.a9 1,aA<|.a9 2,aA<|.e8 t,aA<|.a9 3,aC,aA r,aA<|.a7 ((bE c t).map nm),aA<|sZ d l]++Od 17) j:=by
 have g:=qH c t;have z:dB c t i:=J.m0 g.nd g.i7;have v:=VP (c:=c) (t:=t) (l:=l) C p u;have e:(j++([.g9 33 kG,.b7 [],.b7 [],.b7 [],.b7 [],.b7 [],.b7 [],.b7 [(vS "",.a9 16)]]:aH)).length=18:=vQ h;refine pN rfl<|pN rfl<|Kk h rfl<|aJH h<|VC e rfl<|vz e<|bG (eQ e 0 rfl) rfl ?_;have A:KS c t i F [] [] 800000 (j++([.g9 33 kG,.b7 [],.b7 [],.b7 [],.b7 [],.b7 [],.b7 [],.b7 [(vS "",.a9 16)]]:aH)++([.g9 24 JS]:aH)):=
  ⟨((f.j7 _).j7 _).X,f.ko,f.kw,f.kp,((f.j7 _).j7 _).k6,dN<|eQ h 0 rfl,dN<|eQ h 1 rfl,dN<|eQ h 2 rfl,⟨[],dN<|eQ h 3 rfl,rfl,bV rfl⟩,dN<|eQ h 4 rfl⟩
 refine aJ0 g z w v p (vQ e) A (eQ e 0 rfl) λk b L H I s=> ?_;have y:k[1]? =aA (.b7 (fF c c.i0)):=(s 1<|bV rfl).trans<|dN<|dN N;have P:k[2]? =aA (.a7 (i.map qG)):=(s 2<|bV rfl).trans<|dN<|dN M;refine dS.of rfl<|cH.of rfl<|eE nm (λa=>jE (aQ<|a=T\/a=U\/a=E)<|nm a) (λa X K q=>sN (aBN a)<|q _) ?_;rw[mP,vk];refine wG.of (fR<|aR (lA ..) g.f7)<|aL8 y p u w v<|dS.of rfl<|CM<|CM<|Zb b<|NU b<|dS.of rfl<|q _ ?_;exact⟨dN y,dN P,dN L,dN H,dN I,eQ b 0 rfl,eQ b 1 rfl,vQ b⟩
end
def PX:Co:=Ci 2 OE
section
variable{n:Nat}{Q:V->aH->Prop}{K:PF}{c:aG}{t:Bool}{d:Nat}{l:List bD}{f:List aP}{p:aH}{s g:V}
theorem aGK{a:Nm}:(dF (nm a)<|dQ (bK c t)<|iK c t d l).getD (.a7 [])=mW (xW c t d l a):=by unfold xW;rw[JM];split<;>rfl
theorem p3(h1:mA c t l)(h3:∀r,gN c d l r<=3)(k:LS c t d l f [] [] p)(q:∀C J o,LS c t d l f ((bE c t).map<|mC c t d l) (jK c l<|bE c t) C->aS (WC<|n+9) PX K [] (xM g s c t d l f J o) C):
  aS (WC<|n+9) OE K [] (xM g s c t d l f aC λz=>aC) p:=by
 have F:=qH c t;have I:dV (bK c t) (cQ c t d l):=⟨λr=>CH ..,λr=>aR (bW<|Cv ..)<|h3 r⟩;refine pN rfl<|cH.of rfl<|gR (f:=aH) 6 (λz z o=>xM g s c t d l f (o 0) λj=>o<|j+11) (λz x=>x) (λi x=>LS c t d l f (((bE c t).take i).map<|mC c t d l) (jK c l<|(bE c t).take i) x) p rfl rfl k (λi a x o N H k X=> ?_) λx o k=> ?_
 ·have ha:=F.e7 a<|fT H;have P:((bE c t).take i).length<=10:=pD F.f7;refine lR k.x6 rfl<|wP.of rfl<|Vh (jT<|Gw ..) ?_;rw[aGK];refine wP.of rfl<|Pk k.g1 I ha<|wP.of rfl<|oQ k.x6 (yH P) rfl<|wP.of rfl ?_;have Q:LS c t d l f (((bE c t).take<|i+1).map<|mC c t d l) (jK c l<|(bE c t).take i) (x.set 29<|.a7 (((bE c t).take i).map (mC c t d l)++[.a8 [nm a,.a5 1,cV<|xW c t d l a,cV<|eY c (cQ c t d l) a]])):=by
   rw[xN H];exact k.L8
  refine cH.of rfl (gR (f:=aH) 17 (λz z o=>xM g s c t d l f (aA<|nm a) o) (λz x=>x) (λj x=>LS c t d l f (((bE c t).take<|i+1).map<|mC c t d l) (jK c l ((bE c t).take i)++sS c (l.take j) a ((bE c t).take i).length) x) _ rfl rfl ((fS<|jK c l<|(bE c t).take i).symm▸Q) (λj y x o N Z k w=> ?_) λx o k=> ?_);have u:=aCK (c:=c) h1.nd Z a ((bE c t).take i).length;refine dS.of rfl<|dL (tS (aA y.g8)<|aA a) (λe=> ?_) λe=>fQ<|w _ _ _ trivial rfl rfl ?_;have e:=aV<|bQ e;rw[bO e]at u;refine dL (b:= !aQ (a∈bK c t)) (aN (hV oK)<|Zw (f:=x)) (λA=>mI ?_) λA=>fQ<|w _ _ _ trivial rfl rfl ?_;have L:bY c a≠aA a:=λM=>by have e4:a∈bK c t:=jA.mpr ⟨fT H,cU M⟩;rw[cU e4]at A;injection A
  replace u:=(bH L)▸u;have Y:(((bE c t).take<|i+1).map<|mC c t d l).length=((bE c t).take i).length+1:=by rw[xN H,cM,bP];rfl
  refine pU (kO k.x6) (aN (λk:Nat=>aA<|V.a5 k) Y) (wP.of (v:= .a5 ((bE c t).take i).length) (aN (λi=>aA<|V.a5 i)<|ew ((bE c t).take i).length 1) (lR k.fo rfl (wP.of (aEA a) (OM (vS (if y.ex then "eq"else "le")) rfl (λe N q=> ?_) (λe N q=> ?_) (oQ k.fo (qR (m:=11) ?_) rfl<|w _ _ _ trivial rfl rfl ?_)))));rw[show vS (if y.ex=aB then "eq"else "le")=vS "eq" by refine aE e ?_;rfl]at q;exact q
  rw[show vS (if y.ex=aB then "eq"else "le")=vS "le" by refine aE e ?_;rfl]at q;exact q
  refine aE cM ?_;exact iR (aR (Yl ..) P)<|Ua ..;rw[u,←dK];exact k.R5;have A:=bQ ((ej _).mp A:aQ (a∈bK c t)=aB);rw[bO (bQ (jA.mp A).2),fS]at u;refine aE u ?_;exact k;rw[bH λh=>pM e<|aN aA h,fS]at u;refine aE u ?_;exact k;replace k:=oO▸k;have M:jK c l ((bE c t).take<|i+1)=jK c l ((bE c t).take i)++sS c l a ((bE c t).take i).length:=by(refine aE tP ?_;refine aE H ?_);exact Vl ..
  refine X _ _ _ trivial rfl rfl ?_;refine aE M ?_;exact k
 ·replace k:=oO▸k;exact q _ _ _ k
end
def NI:Co:=Ci 2 PX
theorem TU(g:Nm->Nat)(x:Nm)(L:List Nm)(r:Nm):mK g (x::L) r=if x=r then 0 else g x+mK g L r:=by
 unfold mK;by_cases h:x=r
 ·(refine aE (bO h) ?_;refine aE QV ?_;refine aE (cU h) ?_);rfl
 rw[bH h,QV,fM h];rfl
theorem SI(g:Nm->Nat){r s:Nm}(a:r≠s):∀{L:List Nm},r∈L->s∈L->mK g L r+g r<=mK g L s\/mK g L s+g s<=mK g L r
 |[],h,_=>nomatch h
 |x::L,f,d=>by rw[TU,TU];by_cases b:x=r;subst b;rw[bO rfl,bH a,jH];exact .inl (dI ..);by_cases c:x=s;subst c;rw[bO rfl,bH b,jH];exact .inr (dI ..);rw[bH b,bH c,kX,kX];exact(SI g a (L:=L) ((dA.mp f).resolve_left λe=>b e.symm)<|(dA.mp d).resolve_left λe=>c e.symm).imp (fG · _) (fG · _)
theorem OJ(g:Nm->Nat)(L:List Nm)(r:Nm):(tT g L r).Nodup:=(CH g L r).r8.imp λ{a b} h (e:a=b)=>fg b<|e▸h
theorem PU{g:Nm->Nat}{L:List Nm}{r s:Nm}(c:r≠s)(m:r∈L)(l:s∈L):∀a∈tT g L r,∀b∈tT g L s,a≠b:=λa o b n e=>by
 obtain⟨i,f,t⟩:=gJ.mp o;obtain⟨j,d,q⟩:=gJ.mp n;have k:=(BM<|t.trans<|e.trans q.symm).1;have f:=rF (qD.mp f)<|mK g L r;have d:=rF (qD.mp d)<|mK g L s;rcases SI g c m l with h|h
 exact rH _ (cO (k▸f)<|aR h<|dI ..);exact rH _<|cO (k.symm▸d)<|aR h<|dI ..
theorem aM0{g:Nm->Nat}{L:List Nm}(c:T∈L)(b:U∈L)(d:E∈L):(tT g L T++tT g L U++tT g L E).Nodup:=
 DC.mpr ⟨DC.mpr ⟨OJ ..,OJ ..,PU (by decide) c b⟩,OJ ..,λa e=>(fU.mp e).elim (PU (by decide) c d a) (PU (by decide) b d a)⟩
theorem aH1(s:Nm){w:aH}:nL .Add (nm s) (vS ".") w=aA (.d9 (iO s++cD ".")):=by cases s<;>rfl'
theorem aJO(s:Nm)(k:_root_.Fin 4){w:aH}:nL .Add (.d9 (iO s++cD ".")) (.d9 (dT k)) w=aA (.d9 (pW s k)):=by
 match k with
 |0=>cases s<;>rfl'
 |1=>cases s<;>rfl'
 |2=>cases s<;>rfl'
 |3=>cases s<;>rfl'
section
variable{n:Nat}{Q:V->aH->Prop}{K:PF}{c:aG}{t:Bool}{d:Nat}{l:List bD}{p z:List V}{p:List aP}{w:aH}{A u:V}
theorem p4(hF:FI c t p 4)(h1:mA c t l)(h3:∀r,gN c d l r<=3){z:List V}{C:Option V}{o:Nat->Option V}(k:LS c t d l p ((bE c t).map<|mC c t d l) z w)(q:∀H C o,LS c t d l p ((bE c t).map (mC c t d l)++(bX c t p).map (Bu c (cQ c t d l) p)) z H->aS (WC<|n+9) NI K [] (xM u A c t d l p C o) H):
  aS (WC<|n+9) PX K [] (xM u A c t d l p C o) w:=by
 have h:=qH c t;have F:dB c t p:=hF.m0 h.nd h.i7;have s:dV (bK c t) (cQ c t d l):=⟨λr=>CH ..,λr=>aR (bW<|Cv ..)<|h3 r⟩;have X:(cQ c t d l T++cQ c t d l U++cQ c t d l E).Nodup:=aM0 ((h.m8 T).mpr<|.inl rfl) ((h.m8 U).mpr<|.inr (.inl rfl))<|(h.m8 E).mpr<|.inr (.inr rfl);refine pN rfl<|cH.of rfl<|gR (f:=aH) 6 (λI I o=>xM u A c t d l p (o 0) λj=>o<|j+11) (λI x=>x) (λi x=>LS c t d l p ((bE c t).map (mC c t d l)++(((bE c t).take i).flatMap λa=>p.filter λf=>f.g8==a).map (Bu c (cQ c t d l) p)) z x) w rfl rfl ((fS<|(bE c t).map<|mC c t d l).symm▸k) (λi a x o K' hb k Y=> ?_) λx o k=> ?_
 ·have M:=aR (UW (g:=λa=>p.filter λf=>f.g8==a) (bE c t) i)<|Bk h.nd h.i7 F;have Y:=Y;generalize hP:((bE c t).take i).flatMap (λa=>p.filter λf=>f.g8==a)=P at M k;refine cH.of (Bs k.g2)<|gR (f:=aH) 17 (λI I o=>xM u A c t d l p (aA<|nm a) o) (λI x=>x) (λj x=>LS c t d l p ((bE c t).map (mC c t d l)++(P++(p.take j).filter λf=>f.g8==a).map (Bu c (cQ c t d l) p)) z x) x rfl rfl ((fS P).symm▸k) (λj f x o K' Z k J=> ?_) λx o k=> ?_;have hf:=fT Z;have N:(p.take<|j+1).filter (λf=>f.g8==a)=(p.take j).filter (λf=>f.g8==a)++jE (f.g8==a) f:=by rw[tP,Z,aRO];rfl
  refine dS.of rfl (dL (b:=f.g8==a) (aN aA<|zM ..) (λe=> ?_) λe=> ?_);obtain⟨fi,L⟩:=wT.mp<|(pQ h.i7 F.g8).mpr hf;rw[e,show jE aB f=[f]from rfl]at N;have Q:=RN s h.f7 h.e7 h.i7 h.m8 F L;refine aKU k.g1 k.g2 s X F L (dS.of rfl (Pk k.g1 s (F.g8 f hf) (cH.of rfl (eE bR (λx=>(zV c (cQ c t d l)<|mN p f).map λy=>bR<|x++y) (λx hx K q=>cH.of rfl (eE bR (λy=>[bR (x++y)]) (λy hy K q=>wP.of (DJ<|vW (m:=4) ?_)<|q _) (by rw[mG];exact q _))) ?_))))
  ·(refine eJ cM ?_;refine aE (Q.2.f7 _<|ED.mpr ⟨x,y,hx,hy,rfl⟩) ?_);exact gZ<|JI _
  rw[show((eY c (cQ c t d l) f.g8).flatMap λx=>(zV c (cQ c t d l)<|mN p f).map λy=>bR<|x++y)=(CZ c (cQ c t d l) p f).map bR by unfold CZ kR;rw[←AW];exact aN (aU9 · _) (funext λa=>by refine aE kL ?_;rfl)]
  refine wG.of (fR<|Yb s.f7 f) (lR k.x6 rfl<|wP.of (aH1 f.g8)<|wP.of (aJO f.g8 f.k)<|wP.of (v:= .a5 (sV (mN p f)+1:Nat)) (aN (λi=>aA<|V.a5 i)<|Qt 1 _)<|wP.of rfl<|oQ k.x6 (qR (m:=100) ?_) rfl<|J _ _ _ (fN k.g2<|iD rfl) rfl rfl ?_);rw[cM,bP,bP,cM];exact lX (iR h.f7<|iR M<|aR (lA ..)<|pD F.f7) rfl;rw[N,←dK P,gO,←dK];exact k.L8;rw[e,show jE aI f=[]from rfl,fS]at N;exact J _ _ _ k.g2 rfl rfl<|N▸k;replace k:=oO▸k;refine Y _ _ _ trivial rfl rfl ?_
  (refine aE (Nv hb) ?_;refine aE hP ?_);exact k
 ·replace k:=oO▸k;exact q _ _ _ k
end
noncomputable def pl:Nat->V->Bool
 |0,_=>aI
 |n+1,v=>match v with
  | .h9=>aB
  | .e8 _=>aB
  | .a5 _=>aB
  | .d9 _=>aB
  | .a8 l=>l.all<|pl n
  | .a7 l=>l.all<|pl n
  |_=>aI
theorem ZI{f:V->V->Option Bool}{l:List V}:(∀x∈l,f x x=aA aB)->qI f l l=aA aB:=by
 induction l with
 |nil=>exactλd=>rfl
 |cons a l b=>intro h;show(f a a).bind (λx=>(qI f l l).map λy=>x&&y)=_;exact aE (h a<|.head _)<|aE (b λx c=>h x<|.tail _ c) rfl
theorem YW(n:Nat):∀v:V,pl n v=aB->lD n v v=aA aB:=by
 induction n with
 |zero=>exactλd h=>iZ h
 |succ n c=>
  intro v h;induction v using V.casesOn with
  |h9=>rfl
  |e8 b=>exact aN aA<|lW b
  |a5 i=>exact aN aA<|lW i
  |d9 s=>exact aN aA<|lW s
  |a8 l=>exact ZI λx a=>c x<|cX.mp h x a
  |a7 l=>exact(bO<|lW l.length).trans<|ZI λx a=>c x<|cX.mp h x a
  |_=>exact iZ h
theorem Zz{b:Type}{g:b->V}{k:Nat}(h:∀a,pl k (g a)=aB)(l:List b):(l.map g).all (pl k)=aB:=by refine aE qZ ?_;exact cX.mpr λa c=>h a
theorem VW(n:Nat)(A:List Tp):pl (n+3) (cV A)=aB:=Zz (g:=bR) (k:=n+2) (λa=>Zz (g:=λi:Nat=> .a5 i) (k:=n+1) (λb=>rfl) a) A
theorem Wa{c:aG}{t:Bool}{d:Nat}{l:List bD}{g:List aP}{v:V}(h:v∈nM c t d l g):∃s r,v= .a8 (.d9 s::r)/\pl 39 v=aB:=by
 have b:∀(s:aX) (k:Nat) (A B:List Tp),pl 39 (.a8 [.d9 s,.a5 (k:Nat),cV A,cV B])=aB:=λs k A B=>by
  show(pl 38 (cV A)&&(pl 38 (cV B)&&aB))=aB
  (refine aE (VW 35 A) ?_;refine aE (VW 35 B) ?_);rfl
 rcases fU.mp h with h|h
 rcases fU.mp h with h|h
 obtain⟨a,_,e⟩:=gJ.mp h;exact⟨_,_,e.symm,e▸b ..⟩;obtain⟨f,_,e⟩:=gJ.mp h;exact⟨_,_,e.symm,e▸b ..⟩;exact⟨_,_,dU.mp h,dU.mp h▸b ..⟩
theorem aB2(c:aG)(t:Bool)(d:Nat)(l:List bD)(f:List aP):jS (.a7 (nM c t d l f)) (.a7 (nM c t d l f))=aA aB:=
 YW 40 _ (cX.mpr λx g=>(Wa g).elim λe b=>b.elim λe a=>a.elim λe h=>h)
theorem xc(c:aG)(l:List bD)(L:List Nm):jS (.a7 (jK c l L)) (.a7 (jK c l L))=aA aB:=by
 refine YW 40 _ (cX.mpr λx a=> ?_);obtain⟨p,_,a⟩:=jZ.mp a;have a:x∈(match lN l p.1 with|some x=>if bY c p.1=aA p.1 then []else [V.a8 [.d9 (Bw p.1),Bq x p.2]]|none=>[]):=a
 generalize lN l p.1=o at a;induction o using jP with
 |none=>exact aZ a sJ
 |some y=>have a:x∈(if bY c p.1=aA p.1 then []else [V.a8 [.d9 (Bw p.1),Bq y p.2]]):=a;by_cases e:bY c p.1=aA p.1;exact aZ (bO e▸a) sJ;rw[bH e]at a;refine aE (dU.mp a) ?_;rfl
theorem aAR{b a:List (V×V)}:(∀p∈a,dF p.1 b=aA p.2/\jS p.2 p.2=aA aB)->AZ b a=aA aB:=by
 induction a with
 |nil=>exactλg=>rfl
 |cons p r c=>
  intro h;obtain⟨f,e⟩:=h p<|.head _;show(match dF p.1 b with|none=>aA aI|some y=>(jS p.2 y).bind λp=>(AZ b r).map λq=>p&&q)=_
  refine aE f ?_;show(jS p.2 p.2).bind _=_;exact aE e<|aE (c λp d=>h p<|.tail _ d) rfl
theorem aHV{c:aG}{t:Bool}{d:Nat}{l:List bD}{i:List aP}(b:bS c t)(j:dB c t i):((nM c t d l i).map xS).Nodup:=by
 unfold nM
 (refine aE gO ?_;refine aE gO ?_;refine aE kL ?_;refine aE kL ?_)
 show(((bE c t).map iO++(bX c t i).map λf=>pW f.g8 f.k)++[cD "o/next"]).Nodup;have p:=λ{f:aP} (h:f∈bX c t i)=>(pQ b.i7 j.g8).mp h;refine DC.mpr ⟨DC.mpr ⟨AE.mpr<|b.nd.imp λh e=>h<|PG e,AE.mpr<|(Cg b.nd j.nd).imp_of_mem λr q m e=>m<|j.v9 _ (p r) _ (p q)<|RM e,λx g y k e=> ?_⟩,Dm _ _,λx g y k e=> ?_⟩;obtain⟨a,_,o⟩:=gJ.mp g;obtain⟨f,_,n⟩:=gJ.mp k;exact Tv _ _ _<|o.trans<|e.trans n.symm;have e:=e.trans<|dU.mp k;rcases fU.mp g with g|g
 obtain⟨a,_,o⟩:=gJ.mp g;exact(IW a).1<|o.trans e;obtain⟨f,_,n⟩:=gJ.mp g;exact(IW _).2 _<|n.trans e
theorem aMQ{d:Type}{k:d->aX}{g:d->V}{l:List d}:(l.map k).Nodup->∀a∈l,dF (.d9 (k a)) (l.map λa=>(V.d9<|k a,g a))=aA (g a):=by
 induction l with
 |nil=>exactλf f h=>aZ h sJ
 |cons b l i=>intro j a c;obtain⟨n,m⟩:=EX.mp j;show(if cN (.d9 (k b)) (.d9 (k a))then aA (g b)else dF (.d9 (k a)) (l.map λa=>(V.d9<|k a,g a)))=_;rw[Pg];refine(dA.mp c).elim (λe=> ?_) λc=> ?_;exact aE e<|aE (cU rfl) rfl;refine aE (fM λe:k b=k a=>n<|e▸LG c) ?_;exact i m a c
theorem Sh{L:List aX}(a:L.Nodup):(L.zipIdx.map λp=>p.1).Nodup:=by rw[List.zipIdx_map_fst];exact a
theorem aF2{L:List aX}(a:L.Nodup):Ii (.b7 (gH L)) (.b7 (gH L))=aA aB:=by
 show(match gE (gH L)&&gE (gH L)with|true=>if(gH L).length==(gH L).length then AZ (gH L) (gH L)else aA aI|false=>aC)=_
 rw[show gE (gH L)=aB from Bt L,lW];exact aAR<|nA.mpr λx h=>⟨aMQ (k:=λp:aX×Nat=>p.1) (g:=λp=> .a5 (p.2:Nat)) (Sh a) x h,aN aA<|lW ((x.2:Nat):Int)⟩
def yl:Co:=Ci 18 NI
section
variable{n:Nat}{K:PF}{f:aH}{L:Lc}{R u:List V}
theorem VS{o y:Option V}:res [aC,o] [y,o]=[aC,o]:=by cases o<;>rfl
theorem aMC:(eW R.length).flatMap (λk=>[(R[k]?).getD .h9])=R:=by rw[mG];refine aRV ((bP _).trans pK) λi b a=> ?_;rw[Rc,QY,iA a];rfl
theorem jt:(eW R.length).flatMap (λk=>[V.a8 [.d9 (xS<|(R[k]?).getD .h9),.a5 (0+(k:Nat))]])=(R.map xS).zipIdx.map λp:aX×Nat=>V.a8 [.d9 p.1,.a5 (p.2:Nat)]:=by
 rw[mG];refine aRV (by rw[bP,pK,bP,fh,bP]) λi a c=> ?_
 have b:i<R.length:=by rw[bP,pK]at a;exact a
 rw[Rc,QY,iA b,Rc,List.getElem_zipIdx,Rc,Ca,jH];rfl
theorem p6(e:f[25]? =aA (.g9 16 bF))(M:f[26]? =aA (.a7 R))(Y:f[22]? =aA (.a7 u))(F:f[29]? =aA (.a7 R))(Z:f[30]? =aA (.a7 u))(hR:∀v∈R,∃s r,v=V.a8 (.d9 s::r))(H:R.length<=15)(N:(R.map xS).Nodup)(hs:jS (.a7 R) (.a7 R)=aA aB)(hb:jS (.a7 u) (.a7 u)=aA aB)
  (d:lg 10 L=aA (.a9 25)) (c:lg 15 L=aA (.a9 29)) (o:lg 12 L=aA (.a9 22)) (m:lg 16 L=aA (.a9 30)) (t:lg 11 L=aA (.b7 (gH<|R.map xS))) (q:K (.b8 (.e8 aB)) L f):
  aS (WC<|n+9) yl K [.h9] L f:=by
 have I:=BH (eO 1000000)<|lX H (k:=1000000) rfl;refine pN (i:=10) d<|bG e rfl<|aJT e M<|wG.of I<|Ik (l:=eW R.length) (λk:Nat=> .a5 (0+(k:Nat))) (λk=>[(R[k]?).getD .h9]) rfl (λr a K q=> ?_) ?_
 ·have a:=iA<|qD.mp a;refine pN d<|bG e rfl ?_;show WC _ _ [_,.a5 (0+(r:Int))] _ _;rw[Ca];refine jk e M a ?_;rw[a]at q;exact q _ VS
 ·rw[aMC];have J:∀{A:List V} {x y:V},jS (.a7 A) (.a7 A)=aA aB->eK x f=aA (.a7 A)->eK y f=aA (.a7 A)->dZ .NotEq x y f=aA aI:=λh Q P=>jG Q P (by show(jS _ _).map oK=_;rw[h];rfl)
  refine wG.of (cU<|vW H) (pN c (dL (J hs rfl<|kO F) (λh=>nomatch h) λX=> ?_));refine pN o (pN m (dL (J hb (kO Y)<|kO Z) (λh=>nomatch h) λX=>fQ ?_));refine pN t<|pN c ?_;refine pU (kO F) rfl<|wG.of I<|Ik (l:=eW R.length) (λk:Nat=> .a5 (0+(k:Nat))) (λk=>[.a8 [.d9 (xS<|(R[k]?).getD .h9),.a5 (0+(k:Nat))]]) rfl (λr a K q=> ?_) ?_;have a:=iA<|qD.mp a;obtain⟨s,w,hw⟩:=hR _<|fT a;rw[hw]at a;refine pN c<|Bn (kO F) (v:= .a8 (.d9 s::w)) ?_<|wP.of rfl ?_;show idxV R (0+(r:Int))=_;rw[Ca,JQ,a];rw[a]at q;exact q _ VS;refine aE jt ?_;have h:=OS (k:=λp:aX×Nat=>p.1) (g:=λp=> .a5 (p.2:Nat)) ((R.map xS).zipIdx) []<|Sh N;refine wG.of (fR (k:=15) (by rw[fh,bP];exact H)) (pU rfl (aN (hV V.b7) h)<|qL (b:=aB) (aF2 N) q)
end
section
variable{n:Nat}{Q:V->aH->Prop}{K:PF}{c:aG}{t:Bool}{d:Nat}{l:List bD}{j:List aP}{f:aH}{C z:V}
theorem p5(M:FI c t j 4)(Q:mA c t l)(N:∀r,gN c d l r<=3){w:Option V}{o:Nat->Option V}(k:LS c t d l j ((bE c t).map (mC c t d l)++(bX c t j).map (Bu c (cQ c t d l) j)) (jK c l<|bE c t) f)(q:∀L h,K (.b8 (.e8 aB)) L h):
  aS (WC<|n+9) NI K [] (xM z C c t d l j w o) f:=by
 have a:=qH c t;have i:dB c t j:=M.m0 a.nd a.i7;have g:E∈bK c t:=(a.m8 E).mpr<|.inr (.inr rfl);have A:(cQ c t d l E).length<=3:=aR (bW<|Cv ..)<|N E;refine pN rfl<|wP.of (Ep g)<|wP.of (Ep g)<|wP.of rfl<|wG.of rfl<|cH.of rfl<|Ik (l:=(cQ c t d l E).zip (cQ c t d l E).tail) (λp=> .a8 [bR p.1,bR p.2]) (λp=>[bR (p.1++p.2)]) ?_ (λp J K q=> ?_) ?_
 ·show Bz _ (((cQ c t d l E).map bR).drop 1)=_;rw[←List.map_drop,Oi,List.drop_one]
 ·have m:=QS J;refine dS.of rfl (wP.of (DJ<|vW (m:=4) ?_)<|q _)
  (refine aE ((CH (gN c d l) (bK c t) E).f7 _ m.1) ?_;refine aE ((CH (gN c d l) (bK c t) E).f7 _<|aRF m.2) ?_)
  exact bV rfl
 ·rw[mG,show((cQ c t d l E).zip (cQ c t d l E).tail).map (λp=>bR<|p.1++p.2)=(rV<|cQ c t d l E).map bR by unfold rV;refine aE kL ?_;rfl]
  have x:(rV<|cQ c t d l E).length<=3:=by unfold rV;rw[bP,aRD];exact aR (QR ..) A
  refine wG.of (fR x) (wP.of rfl<|lR k.x6 rfl<|oQ k.x6 (qR (m:=14) ?_) rfl ?_);rw[cM,bP,bP];exact iR a.f7<|Bk a.nd a.i7 i;have b:LS c t d l j (nM c t d l j) (jK c l<|bE c t) (f.set 29<|.a7 ((bE c t).map (mC c t d l)++(bX c t j).map (Bu c (cQ c t d l) j)++[.a8 [vS "o/next",.a5 2,cV<|rV<|cQ c t d l E,cV<|rV<|cQ c t d l E]])):=k.L8;have y:(nM c t d l j).length<=15:=by unfold nM;rw[cM,cM,bP,bP];exact iR (iR a.f7<|Bk a.nd a.i7 i)<|bT 1
  exact p6 b.b b.L5 b.F9 b.x6 b.fo (λv I=>(Wa I).elim λs H=>H.elim λr F=>F.elim λe P=>⟨s,r,e⟩) y (aHV a i) (aB2 ..) (xc ..) rfl rfl rfl rfl rfl (q _ _)
theorem aAJ(m:List Int)(h:m.length<=63):WC 60 5099 [.a7 (m.map .a5)] [] λv k=>v= .e8 aB:=by refine wc (n:=59) aMY rfl (p1 (n:=50) h λc t d l j F C f H e K J g p a I q=> ?_);have i:=VP (c:=c) (t:=t) (l:=l) p a q;exact p2 (n:=24) H e K J g p a I q λw A=>p3 (n:=50) a i A λs b o y=>p4 (n:=50) g a i y λr b o x=>p5 (n:=50) g a i x λk k=>rfl
end
end
end Internal
set_option backward.match.sparseCases true
namespace Internal.S
noncomputable section
local macro_rules | `(tactic| rfl') => `(tactic| kernel_rfl)
section
noncomputable abbrev SS(a:Type):=StateT cZ eC a
noncomputable abbrev AK:=Array cJ
noncomputable abbrev MT:=Option AK×AK×Nat×Nat×Nat×Nat×Nat
noncomputable abbrev IT:=Option AK×AK×Nat×Nat×Nat×Nat
noncomputable abbrev OT:=Option AK×AK×Nat×Nat×Nat
noncomputable def GV:Nat->SS Unit:=sortPriv% PySem.Builtin.setMinGallop
noncomputable def AY:Bool->cJ->AK->Nat->Nat->Nat->SS (Option Nat):=sortPriv% PySem.Builtin.gallop
noncomputable def JX:AK->AK->SS AK:=sortPriv% PySem.Builtin.mergeLo
noncomputable def Jm:AK->AK->SS AK:=sortPriv% PySem.Builtin.mergeHi
noncomputable def xO(a b c:AK)(e d:Nat):AK:=c++a.extract e a.size++b.extract d b.size
noncomputable def CF(a b c:AK)(e d:Nat):AK:=c++b.extract d b.size++a.extract e a.size
section
variable(a b:AK)
def g5(c:AK)(d f g k e:Nat)(x:cJ):SS (ForInStep MT):=
 if(d+1+1==a.size)=aB then bB (.done (aA<|CF a b (c.push x) (d+1) f,c.push x,d+1,f,g,k,e))
 else if(aQ (k<7)&&aQ (e<7))=aB then bB (.done (aC,c.push x,d+1,f,g,k,e))
 else bB (.yield (aC,c.push x,d+1,f,g,k,e))
def g4(c:AK)(d g e k f:Nat):SS (ForInStep MT):=nB a d>>=g5 a b c d g e k f
def g3(c:AK)(f d g k h:Nat):Option Nat->SS (ForInStep MT)
 |some e=>
  if e>0 then
   if(d+e==b.size)=aB then bB (.done (aA<|xO a b (c++b.extract d (d+e)) f<|d+e,c++b.extract d (d+e),f,d+e,g,k,e))
   else g4 a b (c++b.extract d (d+e)) f (d+e) g k e
  else g4 a b c f d g k e
 |_=>bB<|.done (aA<|xO a b c f d,c,f,d,g,k,h)
def g2(c:AK)(e d f k g:Nat)(x:cJ):SS (ForInStep MT):=
 if(d+1==b.size)=aB then bB (.done (aA<|xO a b (c.push x) e<|d+1,c.push x,e,d+1,f,k,g))
 else nB a e>>=λy=>AY aB y b (d+1) (b.size-(d+1)) 0>>=g3 a b (c.push x) e (d+1) f k g
def g1(c:AK)(f d e k g:Nat):SS (ForInStep MT):=nB b d>>=g2 a b c f d e k g
def g0(d:AK)(c e f h g:Nat):Option Nat->SS (ForInStep MT)
 |some k=>
  if k>0 then
   if(c+k+1==a.size)=aB then bB (.done (aA<|CF a b (d++a.extract c (c+k)) (c+k) e,d++a.extract c (c+k),c+k,e,f,k,g))
   else if(c+k==a.size)=aB then bB (.done (aA<|xO a b (d++a.extract c (c+k)) (c+k) e,d++a.extract c (c+k),c+k,e,f,k,g))
   else g1 a b (d++a.extract c (c+k)) (c+k) e f k g
  else g1 a b d c e f k g
 |_=>bB<|.done (aA<|xO a b d c e,d,c,e,f,h,g)
def gS(c:AK)(d f e h g:Nat):SS (ForInStep MT):=GV e>>=λi=>nB b f>>=λy=>AY aI y a d (a.size-d) 0>>=g0 a b c d f e h g
def gB(c:MT):SS (ForInStep MT):=
 if c.2.2.2.2.1>1 then gS a b c.2.1 c.2.2.1 c.2.2.2.1 (c.2.2.2.2.1-1) c.2.2.2.2.2.1 c.2.2.2.2.2.2
 else gS a b c.2.1 c.2.2.1 c.2.2.2.1 c.2.2.2.2.1 c.2.2.2.2.2.1 c.2.2.2.2.2.2
def i1(h:Nat)(c:AK)(e d g f:Nat):Option Bool->SS (ForInStep IT)
 |some w=>
  if w=aB then nB b d>>=λx=>
   if(d+1==b.size)=aB then bB (.done (aA<|xO a b (c.push x) e<|d+1,c.push x,e,d+1,0,f+1))
   else if f+1>=h then bB (.done (aC,c.push x,e,d+1,0,f+1))
   else bB (.yield (aC,c.push x,e,d+1,0,f+1))
  else nB a e>>=λx=>
   if(e+1+1==a.size)=aB then bB (.done (aA<|CF a b (c.push x) (e+1) d,c.push x,e+1,d,g+1,0))
   else if g+1>=h then bB (.done (aC,c.push x,e+1,d,g+1,0))
   else bB (.yield (aC,c.push x,e+1,d,g+1,0))
 |_=>bB<|.done (aA<|xO a b c e d,c,e,d,g,f)
def iB(d:Nat)(c:IT):SS (ForInStep IT):=nB b c.2.2.2.1>>=λy=>nB a c.2.2.1>>=λx=>lt' y x>>=i1 a b d c.2.1 c.2.2.1 c.2.2.2.1 c.2.2.2.2.1 c.2.2.2.2.2
def q2(c:MT):SS (ForInStep OT):=match c.1 with
 |some r=>bB<|.done (aA r,c.2.1,c.2.2.1,c.2.2.2.1,c.2.2.2.2.1)
 |none=>GV (c.2.2.2.2.1+1)>>=λa=>bB<|.yield (aC,c.2.1,c.2.2.1,c.2.2.2.1,c.2.2.2.2.1+1)
def q1(d:Nat)(c:IT):SS (ForInStep OT):=match c.1 with
 |some r=>bB<|.done (aA r,c.2.1,c.2.2.1,c.2.2.2.1,d)
 |none=>liftM (yU "list.sort.gallop")>>=λe=>jD [0:a.size+b.size] ((aC,c.2.1,c.2.2.1,c.2.2.2.1,d+1,c.2.2.2.2.1,c.2.2.2.2.2):MT) (λe=>gB a b)>>=q2
def qB(c:OT):SS (ForInStep OT):=jD [0:a.size+b.size] ((aC,c.2.1,c.2.2.1,c.2.2.2.1,0,0):IT) (λd=>iB a b c.2.2.2.2)>>=q1 a b c.2.2.2.2
noncomputable def qE(c:OT):SS AK:=match c.1 with
 |some r=>bB r
 |none=>liftM (zK "internal:list.sort.merge-bound":eC AK)
def Zh(x:cJ):SS AK:=
 if(1==b.size)=aB then bB (xO a b #[x] 0 1)
 else if(0+1==a.size)=aB then bB (CF a b #[x] 0 1)
 else get>>=λs=>jD [0:a.size+b.size] ((aC, #[x],0,1,gallopOf s):OT) (λc=>qB a b)>>=qE
end
theorem aCG(a b:AK):JX a b=liftM (yU "list.sort.merge-lo")>>=λc=>nB b 0>>=Zh a b:=by rfl'
noncomputable abbrev MH:=Option AK×Nat×Nat×AK×Nat×Nat×Nat
noncomputable abbrev IH:=Option AK×Nat×Nat×AK×Nat×Nat
noncomputable abbrev OH:=Option AK×Nat×Nat×AK×Nat
noncomputable def vC(a b c:AK)(e d:Nat):AK:=a.extract 0 e++b.extract 0 d++c.reverse
noncomputable def DL(a b c:AK)(e d:Nat):AK:=b.extract 0 d++a.extract 0 e++c.reverse
section
variable(a b:AK)
def y5(d e:Nat)(c:AK)(g k f:Nat)(x:cJ):SS (ForInStep MH):=
 if(d-1==0)=aB then bB (.done (aA<|vC a b (c.push x) (d-1) e,d-1,e,c.push x,g,k,f))
 else if(aQ (k<7)&&aQ (f<7))=aB then bB (.done (aC,d-1,e,c.push x,g,k,f))
 else bB (.yield (aC,d-1,e,c.push x,g,k,f))
def y4(d e:Nat)(c:AK)(f k g:Nat):SS (ForInStep MH):=nB a (d-1)>>=y5 a b d e c f k g
def y3(e d:Nat)(c:AK)(f k g:Nat):Option Nat->SS (ForInStep MH)
 |some t=>
  if d-t>0 then
   if(t==1)=aB then bB (.done (aA<|DL a b (c++(b.extract t d).reverse) e t,e,t,c++(b.extract t d).reverse,f,k,d-t))
   else if(t==0)=aB then bB (.done (aA<|vC a b (c++(b.extract t d).reverse) e t,e,t,c++(b.extract t d).reverse,f,k,d-t))
   else y4 a b e t (c++(b.extract t d).reverse) f k (d-t)
  else y4 a b e d c f k (d-t)
 |_=>bB<|.done (aA<|vC a b c e d,e,d,c,f,k,g)
def y2(e d:Nat)(c:AK)(f k g:Nat)(x:cJ):SS (ForInStep MH):=
 if(d-1==1)=aB then bB (.done (aA<|DL a b (c.push x) e<|d-1,e,d-1,c.push x,f,k,g))
 else nB a (e-1)>>=λy=>AY aB y b 0 (d-1) (d-1-1)>>=y3 a b e (d-1) (c.push x) f k g
def y1(e d:Nat)(c:AK)(f k g:Nat):SS (ForInStep MH):=nB b (d-1)>>=y2 a b e d c f k g
def y0(d e:Nat)(c:AK)(f h g:Nat):Option Nat->SS (ForInStep MH)
 |some t=>
  if d-t>0 then
   if(t==0)=aB then bB (.done (aA<|vC a b (c++(a.extract t d).reverse) t e,t,e,c++(a.extract t d).reverse,f,d-t,g))
   else y1 a b t e (c++(a.extract t d).reverse) f (d-t) g
  else y1 a b d e c f (d-t) g
 |_=>bB<|.done (aA<|vC a b c d e,d,e,c,f,h,g)
def yS(d e:Nat)(c:AK)(f h g:Nat):SS (ForInStep MH):=GV f>>=λi=>nB b (e-1)>>=λy=>AY aI y a 0 d (d-1)>>=y0 a b d e c f h g
def yB(c:MH):SS (ForInStep MH):=
 if c.2.2.2.2.1>1 then yS a b c.2.1 c.2.2.1 c.2.2.2.1 (c.2.2.2.2.1-1) c.2.2.2.2.2.1 c.2.2.2.2.2.2
 else yS a b c.2.1 c.2.2.1 c.2.2.2.1 c.2.2.2.2.1 c.2.2.2.2.2.1 c.2.2.2.2.2.2
def x1(h e d:Nat)(c:AK)(g f:Nat):Option Bool->SS (ForInStep IH)
 |some w=>
  if w=aB then nB a (e-1)>>=λx=>
   if(e-1==0)=aB then bB (.done (aA<|vC a b (c.push x) (e-1) d,e-1,d,c.push x,g+1,0))
   else if g+1>=h then bB (.done (aC,e-1,d,c.push x,g+1,0))
   else bB (.yield (aC,e-1,d,c.push x,g+1,0))
  else nB b (d-1)>>=λx=>
   if(d-1==1)=aB then bB (.done (aA<|DL a b (c.push x) e<|d-1,e,d-1,c.push x,0,f+1))
   else if f+1>=h then bB (.done (aC,e,d-1,c.push x,0,f+1))
   else bB (.yield (aC,e,d-1,c.push x,0,f+1))
 |_=>bB<|.done (aA<|vC a b c e d,e,d,c,g,f)
def xB(d:Nat)(c:IH):SS (ForInStep IH):=nB b (c.2.2.1-1)>>=λy=>nB a (c.2.1-1)>>=λx=>lt' y x>>=x1 a b d c.2.1 c.2.2.1 c.2.2.2.1 c.2.2.2.2.1 c.2.2.2.2.2
def zw(c:MH):SS (ForInStep OH):=match c.1 with
 |some r=>bB<|.done (aA r,c.2.1,c.2.2.1,c.2.2.2.1,c.2.2.2.2.1)
 |none=>GV (c.2.2.2.2.1+1)>>=λa=>bB<|.yield (aC,c.2.1,c.2.2.1,c.2.2.2.1,c.2.2.2.2.1+1)
def vx(d:Nat)(c:IH):SS (ForInStep OH):=match c.1 with
 |some r=>bB<|.done (aA r,c.2.1,c.2.2.1,c.2.2.2.1,d)
 |none=>liftM (yU "list.sort.gallop")>>=λe=>jD [0:a.size+b.size] ((aC,c.2.1,c.2.2.1,c.2.2.2.1,d+1,c.2.2.2.2.1,c.2.2.2.2.2):MH) (λe=>yB a b)>>=zw
def td(c:OH):SS (ForInStep OH):=jD [0:a.size+b.size] ((aC,c.2.1,c.2.2.1,c.2.2.2.1,0,0):IH) (λd=>xB a b c.2.2.2.2)>>=vx a b c.2.2.2.2
noncomputable def qa(c:OH):SS AK:=match c.1 with
 |some r=>bB r
 |none=>liftM (zK "internal:list.sort.merge-bound":eC AK)
def mHi(x:cJ):SS AK:=
 if(a.size-1==0)=aB then bB (vC a b #[x] (a.size-1) b.size)
 else if(b.size==1)=aB then bB (DL a b #[x] (a.size-1) b.size)
 else get>>=λs=>jD [0:a.size+b.size] ((aC,a.size-1,b.size, #[x],gallopOf s):OH) (λc=>td a b)>>=qa
end
theorem aD5(a b:AK):Jm a b=liftM (yU "list.sort.merge-hi")>>=λc=>nB a (a.size-1)>>=mHi a b:=by rfl'
end
section
noncomputable abbrev GT:=Option (Option Nat)×Nat×Nat
noncomputable def Hf(l:Bool)(d:cJ)(e:AK)(b i:Nat):SS (Option Bool):=nB e (b+i)>>=λx=>if l=aB then lt' x d else lt' d x>>=λr=>bB (r.map (!·))
section
variable(l:Bool)(d:cJ)(e:AK)(b n:Nat)
noncomputable def nw1(a c:Nat):Option Bool->SS (ForInStep GT)
 |some m=>if m=aB then bB (.yield (aC,a+(c-a)/2+1,c))else bB (.yield (aC,a,a+(c-a)/2))
 |_=>bB<|.done (aA aC,a,c)
def Yi(c:GT):SS (ForInStep GT):=if c.2.1>=c.2.2 then bB (.done (aC,c.2.1,c.2.2))else Hf l d e b (c.2.1+(c.2.2-c.2.1)/2)>>=nw1 c.2.1 c.2.2
noncomputable def Xf(c:GT):SS (Option Nat):=match c.1 with
 |some r=>bB r
 |none=>bB<|aA c.2.2
def nw(a c:Nat):SS (Option Nat):=jD [0:n] ((aC,a,c):GT) (λf=>Yi l d e b)>>=Xf
noncomputable def up1(c a:Nat):Option Bool->SS (ForInStep GT)
 |some m=>if(!m)=aB then bB (.done (aC,c,a))else bB (.yield (aC,a,2*a+1))
 |_=>bB<|.done (aA aC,c,a)
def Td(a f:Nat)(c:GT):SS (ForInStep GT):=if c.2.2>=f then bB (.done (aC,c.2.1,c.2.2))else Hf l d e b (a+c.2.2)>>=up1 c.2.1 c.2.2
def Yr(a f:Nat)(c:GT):SS (Option Nat):=match c.1 with
 |some r=>bB r
 |none=>nw l d e b n (a+c.2.1+1)<|a+tI c.2.2 f
noncomputable def rq(c a:Nat):Option Bool->SS (ForInStep GT)
 |some m=>if m=aB then bB (.done (aC,c,a))else bB (.yield (aC,a,2*a+1))
 |_=>bB<|.done (aA aC,c,a)
def Vo(a f:Nat)(c:GT):SS (ForInStep GT):=if c.2.2>=f then bB (.done (aC,c.2.1,c.2.2))else Hf l d e b (a-c.2.2)>>=rq c.2.1 c.2.2
def Vv(a f:Nat)(c:GT):SS (Option Nat):=match c.1 with
 |some r=>bB r
 |none=>nw l d e b n (a+1-tI c.2.2 f)<|a-c.2.1
def gal(a:Nat):Option Bool->SS (Option Nat)
 |some r=>if r=aB then jD [0:n] ((aC,0,1):GT) (λc=>Td l d e b a<|n-a)>>=Yr l d e b n a (n-a)
  else jD [0:n] ((aC,0,1):GT) (λc=>Vo l d e b a<|a+1)>>=Vv l d e b n a (a+1)
 |_=>bB aC
end
theorem aJX(l:Bool)(d:cJ)(e:AK)(b n a:Nat):AY l d e b n a=Hf l d e b a>>=gal l d e b n a:=by rfl'
end
section
noncomputable abbrev UT:=Option (Option Nat)×Nat
noncomputable abbrev FT:=Option (Option Nat)×Nat×Nat
noncomputable abbrev BT:=Option Bool×Unit
noncomputable def ri1(n:Nat):Option Bool->SS (ForInStep UT)
 |some w=>if w=aB then bB (.done (aC,n))else bB (.yield (aC,n+1))
 |_=>bB<|.done (aA aC,n)
def NR(a:Nat)(c:UT):SS (ForInStep UT):=LI (a+c.2) (a+c.2-1)>>=ri1 c.2
noncomputable def la1(c:UT):SS (Option Nat):=match c.1 with
 |some r=>bB r
 |none=>bB<|aA c.2
def Mt(b n a:Nat):SS (Option Nat):=Hz b (b+n)>>=λc=>jD [n:a] ((aC,n):UT) (λc=>NR b)>>=la1
noncomputable def fa2(n q:Nat):Option Bool->SS (ForInStep FT)
 |some w=>if w=aB then bB (.done (aC,n,q))else bB (.yield (aC,n+1,q+1))
 |_=>bB<|.done (aA aC,n,q)
def yz(a n q:Nat):Option Bool->SS (ForInStep FT)
 |some w=>
  if w=aB then
   if q>0 then Hz (a+n-(q+1)) (a+n)>>=λb=>bB (.yield (aC,n+1,0))else bB (.yield (aC,n+1,0))
  else LI (a+n-1) (a+n)>>=fa2 n q
 |_=>bB<|.done (aA aC,n,q)
def faB(a:Nat)(c:FT):SS (ForInStep FT):=LI (a+c.2.1) (a+c.2.1-1)>>=yz a c.2.1 c.2.2
def faE(b a:Nat)(c:FT):SS (Option Nat):=match c.1 with
 |some r=>bB r
 |none=>if c.2.2>0 then Hz (b+c.2.1-(c.2.2+1)) (b+c.2.1)>>=λd=>Mt b c.2.1 a else Mt b c.2.1 a
def PT(b n a:Nat):SS (Option Nat):=liftM (yU "list.sort.descending-run")>>=λc=>jD [n+1:a] ((aC,n+1,0):FT) (λc=>faB b)>>=faE b a
def ru2(b n a:Nat):Option Bool->SS (Option Nat)
 |some w=>if w=aB then bB (aA n)else Hz b (b+n)>>=λc=>PT b n a
 |_=>bB aC
def yd(b a:Nat)(c:UT):SS (Option Nat):=match c.1 with
 |some r=>bB r
 |none=>if(c.2==a)=aB then bB (aA c.2)else if c.2>1 then LI b (b+c.2-1)>>=ru2 b c.2 a else PT b c.2 a
theorem aL1(b a:Nat):countRun' b a=jD [1:a] ((aC,1):UT) (λc=>NR b)>>=yd b a:=by rfl'
noncomputable abbrev BI:=Option Bool×Nat×Nat
noncomputable def tg(l r m:Nat):Option Bool->SS (ForInStep BI)
 |some w=>if w=aB then bB (.yield (aC,l,m))else bB (.yield (aC,m+1,r))
 |_=>bB<|.done (aA aI,l,r)
def To(a k:Nat)(c:BI):SS (ForInStep BI):=if c.2.1>=c.2.2 then bB (.done (aC,c.2.1,c.2.2))else LI (a+k) (a+(c.2.1+c.2.2)/2)>>=tg c.2.1 c.2.2 ((c.2.1+c.2.2)/2)
noncomputable def WF(a k:Nat)(c:BI):SS (ForInStep BT):=match c.1 with
 |some r=>bB<|.done (aA r,())
 |none=>moveDown' (a+k) (a+c.2.1)>>=λb=>bB<|.yield (aC,())
def bsO(a k:Nat)(_:BT):SS (ForInStep BT):=jD [0:k] ((aC,0,k):BI) (λb=>To a k)>>=WF a k
noncomputable def XM(c:BT):SS Bool:=match c.1 with
 |some r=>bB r
 |none=>bB aB
theorem aBO(b n a:Nat):aRW b n a=jD [max a 1:n] ((aC,()):BT) (bsO b)>>=XM:=by rfl'
end
section
noncomputable abbrev rT:=Nat×Nat×Nat
noncomputable def Uq(xs:List cJ)(b:Nat)(a:AK):AK:=xs.zipIdx.foldl (λa (x:cJ×Nat)=>a.setIfInBounds (b+x.2) x.1) a
def YE(a:Nat)(m:AK):SS Bool:=modify (λs=>setArr s<|Uq m.toList a<|fL s)>>=λb=>get>>=λs=>bB (Cb s).isNone
def ma3(s:cZ)(b d a:Nat):Option Nat->SS Bool
 |some c=>if(c==0)=aB then bB aB else if d<=c then JX ((fL s).extract b a) ((fL s).extract a<|a+c)>>=YE b else Jm ((fL s).extract b a) ((fL s).extract a<|a+c)>>=YE b
 |_=>bB aI
def ma2(s:cZ)(c a b d:Nat):Option Nat->SS Bool
 |some k=>if(a-k==0)=aB then bB aB else nB (fL s) (c+k+(a-k)-1)>>=λy=>AY aB y (fL s) b d (d-1)>>=ma3 s (c+k) (a-k) b
 |_=>bB aI
def vy(i:Nat)(s:cZ):Option rT×Option rT->SS Bool
 |(aA (b,c,a),aA (d,e,_))=>set (HA s<|((gA s).setIfInBounds i (b,c+e,a)).eraseIdxIfInBounds<|i+1)>>=λf=>nB (fL s) d>>=λy=>AY aI y (fL s) b c 0>>=ma2 s b c d e
 |_=>liftM (zK "internal:list.sort.pending":eC Bool)
theorem aJ7(i:Nat):Rh i=get>>=λs=>vy i s ((gA s)[i]?,(gA s)[i+1]?):=by rfl'
noncomputable abbrev NT:=Option Unit×Nat
noncomputable abbrev WT:=Option Unit×Unit
noncomputable def Sj:Bool->SS (ForInStep WT):=λb=>if(!b)=aB then bB (.done (aA (),()))else bB (.yield (aC,()))
def th1(p:Array rT)(b:Nat):Option rT->SS (ForInStep WT)
 |some (_,_,a)=>if a<=b then bB (.done (aC,()))else Rh (p.size-2)>>=Sj
 |_=>bB<|.done (aC,())
def Ut(a:Nat)(_:WT):SS (ForInStep WT):=get>>=λs=>th1 (gA s) a (if(gA s).size>1 then(gA s)[(gA s).size-2]? else aC)
noncomputable def PJ(a n:Nat):SS (ForInStep NT):=modify (λs=>HA s<|(gA s).push (a,n,0))>>=λb=>bB<|.yield (aC,a+n)
def SJ(b n e:Nat)(c:WT):SS (ForInStep NT):=match c.1 with
 |some r=>bB<|.done (aA r,b)
 |none=>modify (λs=>HA s<|(gA s).modify ((gA s).size-1) λ(d,a,_)=>(d,a,e))>>=λf=>PJ b n
def yc(a d n:Nat):Option rT->SS (ForInStep NT)
 |some (c,b,_)=>jD [0:a] ((aC,()):WT) (λe=>Ut<|power' a (2*c+b) (2*c+b+b+n) a)>>=SJ d n (power' a (2*c+b) (2*c+b+b+n) a)
 |_=>PJ d n
def IJ(a b n:Nat):SS (ForInStep NT):=get>>=λs=>yc a b n (gA s).back?
def soX(a c f:Nat):Bool->SS (ForInStep NT):=λb=>if(!b)=aB then bB (.done (aA (),c))else IJ a c f
def so1(a c b:Nat):Option Nat->SS (ForInStep NT)
 |some n=>if n<c then liftM (yU "list.sort.binary-insertion")>>=λd=>aRW b (tI (a-b) c) n>>=soX a b (tI (a-b) c)else IJ a b n
 |_=>bB<|.done (aA (),b)
def Tq(a b:Nat)(c:NT):SS (ForInStep NT):=if c.2>=a then bB (.done (aC,c.2))else countRun' c.2 (a-c.2)>>=so1 a b c.2
def fiB(_:WT):SS (ForInStep WT):=get>>=λs=>
 if(gA s).size<=1 then bB (.done (aC,()))
 else Rh (if(if(gA s).size-2>0 then(gA s)[(gA s).size-2-1]?.map (·.2.1)else aC).any (· <((gA s)[(gA s).size-2+1]?.elim 0 (·.2.1)))=aB then(gA s).size-2-1 else(gA s).size-2)>>=Sj
noncomputable def qj(c:WT):SS Unit:=match c.1 with
 |some r=>bB r
 |none=>bB ()
def soE(a:Nat)(c:NT):SS Unit:=match c.1 with
 |some r=>bB r
 |none=>jD [0:a] ((aC,()):WT) (λb=>fiB)>>=qj
theorem aKT:sortRuns'=get>>=λs=>jD [0:(fL s).size] ((aC,0):NT) (λa=>Tq (fL s).size<|minRun' (fL s).size (fL s).size 0)>>=soE (fL s).size:=by rfl'
end
section
structure Sx where
 w:aW
 A:bN
 E:aD->aF->Prop
 s:aF
 l9:AK
 κ:SortKind
 rk:cJ->Nat
 lt:∀(x y:cJ) (d:cZ) (Q:Option Bool->cZ->Prop),x∈l9->y∈l9->kA d=κ->Q (aA<|aQ<|rk x<rk y) d->wpS (Md w) A E s (lt' x y) Q d
noncomputable def Ws(X:Sx){j:Type}(m:SS j)(Q:j->cZ->Prop)(d:cZ):Prop:=wpS (Md X.w) X.A X.E X.s m Q d
noncomputable def ID{l:Type}(D I:l->cZ->Prop):ForInStep l->cZ->Prop
 | .done c=>D c
 | .yield c=>I c
section
variable{X:Sx}{j l n:Type}{a:j}{f:j->SS l}{m:SS j}{d:cZ}{P:j->cZ->Prop}{Q:l->cZ->Prop}
theorem dG(h:P a d):Ws X (bB a) P d:=ft h
theorem pO(h:Ws X m (λa t=>Ws X (f a) Q t) d):Ws X (m>>=f) Q d:=mM h
theorem lC{a:AK}{i:Nat}{x:cJ}{f:cJ->SS l}(e:a[i]? =aA x)(h:Ws X (f x) Q d):Ws X (nB a i>>=f) Q d:=by rw[elem'_eq,e];exact mM<|ft h
theorem VT{x y:cJ}{f:Option Bool->SS l}(b:x∈X.l9)(a:y∈X.l9)(c:kA d=X.κ)(g:X.rk x<X.rk y->Ws X (f<|aA aB) Q d)(e:X.rk y<=X.rk x->Ws X (f<|aA aI) Q d):Ws X (lt' x y>>=f) Q d:=by refine mM (X.lt x y d _ b a c ?_);by_cases h:X.rk x<X.rk y;rw[cU h];exact g h;rw[fM h];exact e<|Dq h
theorem DP{r:String}{f:Unit->SS l}(h:Ws X (f ()) Q d):Ws X (liftM (yU r)>>=f) Q d:=mM<|wpS_lift<|BN ⟨rfl,h⟩
theorem CK{c:j}{b:Nat}{e:Nat}{f:j->SS (ForInStep j)}{g:j->SS l}(I:Nat->j->cZ->Prop)(D:j->cZ->Prop)(m:∀i c t,b<=i->i<e->I i c t->Ws X (f c) (ID D<|I<|i+1) t)(p:∀c t,I (max b e) c t->D c t)(h:I b c d)(k:∀c t,D c t->Ws X (g c) Q t):Ws X (jD [b:e] c (λa=>f)>>=g) Q d:=
 mM (LJ (wpS_forRange I (λi c t s q o=>LJ (m i c t s q o) λr a h=>by cases r<;>exact h) p h) k)
end
end
section
variable{X:Sx}{A:Type}{z:cZ}{Q:A->cZ->Prop}{l:Bool}{w:cJ}{s:AK}{p n:Nat}
theorem kN{c:Prop} [Decidable c]{b a:SS A}(e:c->Ws X b Q z)(d:¬c->Ws X a Q z):Ws X (if c then b else a) Q z:=by
 by_cases h:c
 rw[bO h];exact e h;rw[bH h];exact d h
theorem nC{i j:Nat}{b a:SS A}(d:i=j->Ws X b Q z)(c:i≠j->Ws X a Q z):Ws X (if(i==j)=aB then b else a) Q z:=kN (λh=>d<|jX h) λh=>c λe=>h<|beq_iff_eq.mpr e
theorem Oy{x y:cJ}{P:Option Bool->cZ->Prop}(b:x∈X.l9)(a:y∈X.l9)(c:kA z=X.κ)(e:X.rk x<X.rk y->P (aA aB) z)(d:X.rk y<=X.rk x->P (aA aI) z):Ws X (lt' x y) P z:=by refine X.lt x y z _ b a c ?_;by_cases h:X.rk x<X.rk y;rw[cU h];exact e h;rw[fM h];exact d<|Dq h
noncomputable def mF(X:Sx)(xs:AK)(i:Nat):Nat:=(xs[i]?.map X.rk).getD 0
theorem wD{xs:AK}{i:Nat}{x:cJ}(h:xs[i]? =aA x):mF X xs i=X.rk x:=aN (λo=>(hV X.rk o).getD 0) h
structure hG(X:Sx)(s:AK)(p n:Nat):Prop where
 p7:∀i,i<n->∃x,s[p+i]? =aA x/\x∈X.l9
 r8:∀i j,i<=j->j<n->mF X s (p+i)<=mF X s (p+j)
noncomputable def Lo(X:Sx)(w:cJ)(s:AK)(p k:Nat):Prop:=∀i,i<k->mF X s (p+i)<=X.rk w
noncomputable def Hi(X:Sx)(w:cJ)(s:AK)(p n k:Nat):Prop:=∀i,k<=i->i<n->X.rk w<=mF X s (p+i)
theorem hG.lo(r:hG X s p n){m:Nat}(a:m<n)(h:mF X s (p+m)<=X.rk w):Lo X w s p (m+1):=λi b=>aR (r.r8 i m (gW b) a) h
theorem hG.hi(r:hG X s p n){m:Nat}(h:X.rk w<=mF X s (p+m)):Hi X w s p n m:=λi b a=>aR h<|r.r8 m i b a
theorem Jt{i:Nat}{f:Option Bool->SS A}(r:hG X s p n)(j:i<n)(d:w∈X.l9)(g:kA z=X.κ)(b:mF X s (p+i)<=X.rk w->Ws X (f<|aA aB) Q z)(a:X.rk w<=mF X s (p+i)->Ws X (f<|aA aI) Q z):Ws X (Hf l w s p i>>=f) Q z:=by
 obtain⟨x,e,c⟩:=r.p7 i j;rw[wD e]at b a;refine pO<|lC e ?_;induction l using eT with
 |true=>exact Oy c d g (λh=>b<|dR h) a
 |false=>exact pO<|Oy d c g (λh=>dG<|a<|dR h) λh=>dG<|b h
inductive Gi {ω:Type} (z:cZ) (P:Nat->Nat->Prop):Option ω×Nat×Nat->cZ->Prop
 |mk {l u:Nat}:P l u->Gi z P (aC,l,u) z
theorem gl{a:Type}{e:Nat}{f:Option a×Nat×Nat->SS (ForInStep<|Option a×Nat×Nat)}{g:Option a×Nat×Nat->SS A}(I:Nat->Nat->Nat->Prop)(D:Nat->Nat->Prop)(d:∀x l u,x<e->I x l u->Ws X (f (aC,l,u)) (ID (Gi z D)<|Gi z<|I<|x+1) z)(m:∀x l u,e<=x->I x l u->D l u){l u:Nat}(h:I 0 l u)(k:∀l u,D l u->Ws X (g (aC,l,u)) Q z):Ws X (jD [0:e] (aC,l,u) (λb=>f)>>=g) Q z:=
 CK (λx=>Gi z<|I x) (Gi z D) (λi c t b n j=>by induction j with|mk h=>exact d _ _ _ n h) (λc t h=>by induction h with|mk h=>exact .mk (m _ _ _ (fw ..) h)) (.mk h) λc t h=>by induction h with|mk h=>exact k _ _ h
structure Pl(X:Sx)(w:cJ)(s:AK)(p n k:Nat):Prop where
 le:k<=n
 lo:Lo X w s p k
 hi:Hi X w s p n k
theorem SU{Q:Option Nat->cZ->Prop}(r:hG X s p n)(B:w∈X.l9)(C:kA z=X.κ){i j:Nat}(D:i<=j)(v:j<=n)(o:Lo X w s p i)(t:Hi X w s p n j)(q:∀k,Pl X w s p n k->Q (aA k) z):Ws X (nw l w s p n i j) Q z:=by
 refine gl (f:=Yi l w s p) (g:=Xf) (λx l u=>l<=u/\u<=n/\u-l<=n-x/\Lo X w s p l/\Hi X w s p n u) (λy u=>Pl X w s p n u) ?_ ?_ ⟨D,v,Nat.sub_le_of_le_add<|aR v<|dI ..,o,t⟩ λy u h=>dG<|q u h;rintro x l u-⟨a,b,c,i,j⟩;refine kN (λg=> ?_) λg=> ?_;rw[qC a g]at i;exact dG<|Gi.mk ⟨b,i,j⟩;have d:(u-l)/2<u-l:=Nat.div_lt_self (BP<|EZ g) Nat.one_lt_two;have m:l+(u-l)/2<u:=fx d;exact Jt r (cO m b) B C (λh=>dG<|Gi.mk ⟨m,b,aR (Rj (gZ<|dI l _) u)<|aRX c,r.lo (cO m b) h,j⟩)
  λh=>dG (Gi.mk ⟨dI ..,aR (dR m) b,by rw[wY];exact aRY<|cO d c,i,r.hi h⟩)
 rintro x l u e ⟨a,b,c,i,j⟩;rw[qC a (Rm<|dz.mp<|bj e▸c)]at i;exact⟨b,i,j⟩
theorem Et{Q:Option Nat->cZ->Prop}(r:hG X s p n)(t:w∈X.l9)(u:kA z=X.κ){j:Nat}(m:j<n)(q:∀k,Pl X w s p n k->Q (aA k) z):Ws X (AY l w s p n j) Q z:=by
 rw[aJX];have v:∀{x o:Nat},x<o->x+1<2*o+1/\o<2*o+1:=λh=>⟨fk<|cO h<|aVC _ Rp,BX<|aVC _ Rp⟩;refine Jt r m t u (λy=> ?_) λy=> ?_;refine gl (f:=Td l w s p j<|n-j) (g:=Yr l w s p n j<|n-j) (λx l o=>x<o/\l<o/\l<n-j/\mF X s (p+(j+l))<=X.rk w) (λl o=>l<o/\l<n-j/\mF X s (p+(j+l))<=X.rk w/\(o<n-j->X.rk w<=mF X s (p+(j+o)))) ?_ ?_ ⟨tO,tO,BP m,y⟩ ?_;rintro x l o-⟨a,b,c,d⟩;exact kN (λg=>dG<|Gi.mk ⟨b,c,d,λh=>aZ h<|eI.mpr g⟩) λg=>
  Jt r (fx<|EZ g) t u (λh=>dG<|Gi.mk ⟨(v a).1,(v a).2,EZ g,h⟩) λh=>dG<|Gi.mk ⟨b,c,d,λB=>h⟩
 rintro x l o e ⟨a,b,c,d⟩;exact⟨b,c,d,λh=>aZ (cO h<|pI ..)<|eI.mpr<|dR<|fZ e a⟩;rintro l o ⟨b,c,d,e⟩;refine SU r t u (fG (aRZ.mpr ⟨b,c⟩) j) (aR (fG (aUN ..) j)<|bW<|oL<|dR m) (r.lo (fx c) d) ?_ q;rcases Dk o (n-j)with g|g
 rw[fj (dR g)];exact r.hi<|e g;rw[aRL g,oL<|dR m];exactλi a b=>aZ b<|eI.mpr a;refine gl (f:=Vo l w s p j<|j+1) (g:=Vv l w s p n j<|j+1) (λx l o=>x<o/\l<o/\l<=j/\X.rk w<=mF X s (p+(j-l))) (λl o=>l<o/\l<=j/\X.rk w<=mF X s (p+(j-l))/\(o<=j->mF X s (p+(j-o))<=X.rk w)) ?_ ?_ ⟨tO,tO,eO _,y⟩ ?_;rintro x l o-⟨a,b,c,d⟩;exact kN (λg=>dG<|Gi.mk ⟨b,c,d,λh=>aZ (BX h)<|eI.mpr g⟩) λg=>
  Jt r (fZ (pI ..) m) t u (λh=>dG<|Gi.mk ⟨b,c,d,λB=>h⟩) λh=>dG<|Gi.mk ⟨(v a).1,(v a).2,gW<|EZ g,h⟩
 rintro x l o e ⟨a,b,c,d⟩;exact⟨b,c,d,λh=>aZ (cO (fZ e a)<|aR h<|dR m)<|rH _⟩;rintro l o ⟨b,c,d,e⟩;refine SU r t u (aR (Rj (aRZ.mpr ⟨b,gZ c⟩)<|j+1)<|bW<|Nat.succ_sub_succ ..) (aR (pI ..)<|dR m) ?_ (r.hi d) q;rcases Dk j o with g|g
 rw[aRL g,yT];exactλi h=>aZ h<|uP _;rw[fj (uS g),aR0 g];exact r.lo (fZ (pI ..) m)<|e g
end
section
structure MS(d:cJ->cJ->Prop)(P c A B:List cJ):Prop where
 l7:(c++(A++B)).Perm P
 D5:(c++A).Pairwise d
 A9:(c++B).Pairwise d
 a7:∀A' x,A=A'++[x]->∀y∈B,d y x
structure Mg(d:cJ->cJ->Prop)(P l:List cJ):Prop where
 l7:l.Perm P
 up:l.Pairwise d
section
variable{d:cJ->cJ->Prop}{P c A B z:List cJ}{x:cJ}
theorem SY(j:(c++A).Pairwise d)(i:(c++(z++B)).Pairwise d)(h:∀y∈z,∀x∈A,d y x):((c++z)++A).Pairwise d:=
 have a:=pZ.mp j;have b:=pZ.mp (dK .. ▸i:((c++z)++B).Pairwise d);pZ.mpr ⟨b.1,a.2.1,λu f v e=>(fU.mp f).elim (λh=>a.2.2 u h v e) λg=>h u g v e⟩
theorem MS.N0(m:MS d P c A (z++B))(h:∀y∈z,∀x∈A,d y x):MS d P (c++z) A B where
 l7:=by rw[dK];exact(aR1 c<|List.perm_append_comm_assoc ..).trans m.l7
 D5:=SY m.D5 m.A9 h
 A9:=by rw[dK];exact m.A9
 a7:=λb x e y a=>m.a7 b x e y<|kM z a
theorem MS.O1(m:MS d P c (z++A) B)(h:∀x∈z,∀y∈B,d x y):MS d P (c++z) A B where
 l7:=by rw[dK,←dK z];exact m.l7
 D5:=by rw[dK];exact m.D5
 A9:=SY m.A9 m.D5 h
 a7:=λb x e y a=>m.a7 (z++b) x (by rw[e,dK]) y a
theorem MS.M8(m:MS d P c A B)(h:A=[]\/B=[]):Mg d P (c++A++B) where
 l7:=by rw[dK];exact m.l7
 up:=by
  rcases h with e|e
  rw[e,fS];exact m.A9;rw[e,fS];exact m.D5
theorem MS.v6(m:MS d P c [x] B):Mg d P (c++B++[x]) where
 l7:=by rw[dK];exact(aR1 c aVD).trans m.l7
 up:=pZ.mpr ⟨m.A9,Dm ..,λu b v a=>by rw[dU.mp a];exact(fU.mp b).elim (λh=>(pZ.mp m.D5).2.2 u h x<|dU.mpr rfl) λh=>m.a7 [] x rfl u h⟩
theorem MS.J3(a:∀{x y z},d x y->d y z->d x z)(m:MS d P c (x::A) B){y:cJ}(h:d y x):∀v∈x::A,d y v:=λv b=>
 (dA.mp b).elim (λe=>e▸h) λg=>a h<|aR2 (pZ.mp m.D5).2.1 g
theorem MS.J8(a:∀{x y z},d x y->d y z->d x z)(m:MS d P c A (x::B)){y:cJ}(h:d y x):∀v∈x::B,d y v:=λv b=>
 (dA.mp b).elim (λe=>e▸h) λg=>a h<|aR2 (pZ.mp m.A9).2.1 g
theorem MS.M7(m:MS d P c A B):c.length<=P.length:=m.l7.length_eq▸cM▸dI ..
end
noncomputable def La(a:AK)(i:Nat):List cJ:=(a.extract i a.size).toList
noncomputable def Lt(a:AK)(n:Nat):List cJ:=(a.extract 0 n).toList.reverse
section
variable{a:AK}{i k n:Nat}{x:cJ}
theorem VN{j:Nat}(e:i<=j)(b:j<=k):(a.extract i k).toList=(a.extract i j).toList++(a.extract j k).toList:=by rw[←xC,Array.extract_append_extract,fj e,fy b]
theorem YR(h:a[i]? =aA x):(a.extract i<|i+1).toList=[x]:=by obtain⟨b,e⟩:=Cc.mp h;rw[gf,gg,wY,aQT b,List.take_succ_cons,fm];exact aN (λv=>[v]) e
theorem MY(h:i+k<=a.size):La a i=(a.extract i<|i+k).toList++La a (i+k):=VN (dI ..) h
theorem BA(h:i<a.size):∃x,a[i]? =aA x/\La a i=x::La a (i+1):=
 have e:=lJ h
 ⟨_,e,by rw[MY (k:=1) h,YR e];rfl⟩
theorem MZ(h:i=a.size):La a i=[]:=by rw[La,h,aVE<|bT _]
theorem Pv(h:k<=n):Lt a n=(a.extract k n).reverse.toList++Lt a k:=by rw[Lt,VN (eO k) h,LK,Rq];rfl
theorem AX(b:0<n)(h:n<=a.size):∃x,a[n-1]? =aA x/\Lt a n=x::Lt a (n-1):=
 have e:=lJ<|cO (HB b) h
 ⟨_,e,by have o:=YR e;rw[LL b]at o;rw[Pv (pI n 1),Rq,o];rfl⟩
theorem Ps:Lt a 0=[]:=by rw[Lt,aVE<|bT _];rfl
theorem RH{j:Nat}(h:x∈(a.extract i j).toList):∃k,i+k<j/\a[i+k]? =aA x:=by obtain⟨k,b,e⟩:=Array.mem_extract_iff_getElem.mp<|yV.mp h;exact⟨k,fx<|cO b<|Nat.sub_le_sub_right (QR ..) i,e▸lJ _⟩
end
end
section
noncomputable abbrev Le(X:Sx)(x y:cJ):Prop:=X.rk x<=X.rk y
structure fW(X:Sx)(a:AK):Prop where
 m9:∀x∈a.toList,x∈X.l9
 up:a.toList.Pairwise (Le X)
noncomputable def Sg(s t:cZ):Prop:=aR3 (kA t) (fL t) (gA t) 0 (Cb t)=aR3 (kA s) (fL s) (gA s) 0 (Cb s)
section
variable{X:Sx}{a b:AK}{d n k j m:Nat}{E x:cJ}{w t:cZ}{H C:Type}{Q:H->cZ->Prop}
theorem Sg.n5(h:Sg w t)(a:kA w=X.κ):kA t=X.κ:=(aN kA h).trans a
theorem fW.w4(h:fW X a)(f:d+n<=a.size):hG X a d n where
 p7:=λi m=>⟨_,lJ<|cO (rF m d) f,h.m9 _<|yV.mpr<|aR4 _⟩
 r8:=λi j b k=>by
  have c:=cO (rF k d) f;have e:=fZ (fG b d) c;rw[wD (lJ e),wD<|lJ c];rcases HC b with g|g
  exact Dj.mp h.up _ _ e c (rF g d);subst g;exact bT _
theorem Pl.I7(p:Pl X E a d n k)(e:d+k=j):∀x∈(a.extract d j).toList,Le X x E:=λx b=>by obtain⟨i,c,f⟩:=RH b;exact aR (bW (wD f).symm)<|p.lo i<|QZ<|e▸c
theorem Pl.I4(p:Pl X E a d n k)(e:d+k=j)(g:d+n=m):∀x∈(a.extract j m).toList,Le X E x:=λx f=>by obtain⟨i,b,c⟩:=RH f;subst e g;rw[kX]at b c;exact aR (p.hi (k+i) (dI ..)<|QZ b)<|bW<|wD c
theorem IK{g:Nat}{f:Unit->SS H}(s:Sg w t)(h:∀t,Sg w t->Ws X (f ()) Q t):Ws X (GV g>>=f) Q t:=mM<|Rr<|h _ s
inductive eX (w t:cZ) (Lo Lv:C->Prop) (FnM:AK->Prop):ForInStep (Option AK×C)->Prop
 |m0 {xs:AK} {c:C}:Sg w t->FnM xs->eX w t Lo Lv FnM (.done (aA xs,c))
 |r5 {c:C}:Sg w t->Lo c->eX w t Lo Lv FnM (.done (aC,c))
 |go {o:Option AK} {c:C}:Sg w t->Lv c->eX w t Lo Lv FnM (.yield (o,c))
inductive mR (w t:cZ) (Lo:C->Prop) (FnM:AK->Prop):Option AK×C->Prop
 |m0 {xs:AK} {c:C}:Sg w t->FnM xs->mR w t Lo FnM (aA xs,c)
 |r5 {c:C}:Sg w t->Lo c->mR w t Lo FnM (aC,c)
noncomputable abbrev WM(X:Sx)(w t:cZ)(c b:C->Prop)(a:AK->Prop)(p:SS (ForInStep<|Option AK×C)):Prop:=Ws X p (λr t=>eX w t c b a r) t
theorem DW{N k:Nat}{n e:Nat->C->Prop}{a:AK->Prop}{f:Option AK×C->SS (ForInStep<|Option AK×C)}{g:Option AK×C->SS H}{c:C}(b:∀{i j c},i<=j->n j c->n i c)(x:∀{m c},e m c->m<=N)(z:∀m o c t,1<=m->Sg w t->e m c->WM X w t (n<|m+1) (e<|m+1) a (f (o,c)))(s:Sg w t)(v:1<=k)(h:e k c)(y:∀r t,mR w t (n<|k+1) a r->Ws X (g r) Q t):Ws X (jD [0:N] (aC,c) (λu=>f)>>=g) Q t:=
 CK (λi c t=>Sg w t/\e (k+i) c.2) (λr t=>mR w t (n<|k+1) a r)
  (λi c t u u p=>LJ (z _ _ _ _ (aR v<|dI ..) p.1 p.2) λr t q=>by
   induction q with
   |m0 s h=>exact mR.m0 s h
   |r5 s h=>exact mR.r5 s<|b (gZ<|dI ..) h
   |go s h=>exact⟨s,h⟩)
  (λc t p=>aZ (x p.2)<|Rs<|cO (Nat.lt_add_of_pos_left v)<|fG (fw 0 N) k) ⟨s,h⟩ y
structure ML(P A B:List cJ)(D:cJ->cJ->Prop)(m:Nat)(l:AK):Prop where
 ms:MS D P l.toList A B
 hm:m<=l.size
variable{P A B z:List cJ}{D:cJ->cJ->Prop}{l F:AK}
theorem ML.pB(h:ML P A (x::B) D m l)(g:∀v∈A,D x v):ML P A B D (m+1) (l.push x):=
 ⟨by rw[Rt];exact h.ms.N0 (z:=[x]) λu a=>dU.mp a▸g,by rw[aVF];exact gZ h.hm⟩
theorem ML.pA(h:ML P (x::A) B D m l)(g:∀v∈B,D x v):ML P A B D (m+1) (l.push x):=
 ⟨by rw[Rt];exact h.ms.O1 (z:=[x]) λu a=>dU.mp a▸g,by rw[aVF];exact gZ h.hm⟩
theorem ML.xB(h:ML P A (F.toList++B) D m l)(g:∀u∈F.toList,∀v∈A,D u v):ML P A B D m (l++F):=
 ⟨by rw[xC];exact h.ms.N0 g,by rw[Qu];exact aR h.hm<|dI ..⟩
theorem ML.xA(h:ML P (F.toList++A) B D m l)(g:∀u∈F.toList,∀v∈B,D u v):ML P A B D m (l++F):=
 ⟨by rw[xC];exact h.ms.O1 g,by rw[Qu];exact aR h.hm<|dI ..⟩
end
end
section
noncomputable abbrev PP(a b:AK):List cJ:=a.toList++b.toList
noncomputable abbrev oG(X:Sx)(a b:AK)(m:Nat)(A:AK)(B C:Nat):Prop:=ML (PP a b) (La a B) (La b C) (Le X) m A
structure lQ(X:Sx)(a b:AK)(m:Nat)(A:AK)(B C:Nat):Prop where
 ml:oG X a b m A B C
 ha:B+1<a.size
 hb:C<b.size
noncomputable abbrev oH{E:Type}(X:Sx)(a b:AK)(m:Nat)(c:AK×Nat×Nat×E):Prop:=lQ X a b m c.1 c.2.1 c.2.2.1
noncomputable abbrev FnM(X:Sx)(a b:AK)(xs:AK):Prop:=Mg (Le X) (PP a b) xs.toList
noncomputable abbrev WL{E:Type}(X:Sx)(a b:AK)(D:cZ)(m:Nat)(p:SS (ForInStep<|Option AK×AK×Nat×Nat×E))(t:cZ):Prop:=WM X D t (oH X a b m) (oH X a b m) (FnM X a b) p
section
variable{X:Sx}{a b A:AK}{B C m k:Nat}{D t:cZ}{E:Type}{u v:E}{x:cJ}
theorem HR{x y z:cJ}:Le X x y->Le X y z->Le X x z:=aR
theorem FZ(h:oG X a b m A B C)(e:B=a.size\/C=b.size):FnM X a b (xO a b A B C):=by have q:=h.ms.M8<|e.imp MZ MZ;rw[FnM,xO,xC,xC];exact q
theorem Pt(h:oG X a b m A B C)(e:B+1=a.size):FnM X a b (CF a b A B C):=by obtain⟨x,_,c⟩:=BA<|Nat.lt_of_succ_le<|bW e;have q:=h.ms;rw[MZ e]at c;rw[FnM,CF,xC,xC];show Mg _ _ (_++_++La a B);rw[c]at q⊢;exact q.v6
theorem eA{d:Prop} [Decidable d]{w:AK×Nat×Nat×E}(s:Sg D t)(h:oG X a b m A B C)(g:B<a.size)(f:C<b.size):WL X a b D m (if(B+1==a.size)=aB then bB (.done (aA<|CF a b A B C,w))else if d then bB (.done (aC,A,B,C,u))else bB (.yield (aC,A,B,C,v))) t:=
 nC (λe=>dG<|.m0 s (Pt h e)) λe=>
  have l:lQ X a b m A B C:=⟨h,sL g e,f⟩;kN (λc=>dG<|.r5 s l) λc=>dG<|.go s l
theorem ZO{e f:Nat}(s:Sg D t)(h:oG X a b m A B C)(c:B+1<a.size)(i:C<b.size)(g:∀x,a[B]? =aA x->∀v∈La b C,Le X x v):WL X a b D (m+1) (g4 a b A B C e k f) t:=by obtain⟨x,d,j⟩:=BA<|oN c;unfold oG at h;rw[j]at h;exact lC d<|eA s (h.pA<|g x d) c i
theorem aJ4{r z c:Nat}(s:Sg D t)(h:oG X a b m A B C)(i:B+1<a.size)(f:C<b.size)(n:a[B]? =aA x)(p:Pl X x b C (b.size-C) c):WL X a b D (m+1) (g3 a b A B C r k z<|aA c) t:=by
 have l:C+c<=b.size:=aVG (dR f) p.le;have d:∀y,a[B]? =aA y->∀v∈La b (C+c),Le X y v:=λy j=>(aV<|n.symm.trans j)▸p.I4 rfl (oL<|dR f);refine kN (λF=> ?_) λg=> ?_;obtain⟨y,j,o⟩:=BA<|oN i;have q:oG X a b m (A++b.extract C (C+c)) B (C+c):=by unfold oG at h⊢;rw[MY l,o]at h;rw[o];exact h.xB λu w=>h.ms.J3 (d:=Le X) HR<|aV (n.symm.trans j)▸p.I7 rfl u w
 refine nC (λe=>dG<|.m0 s (FZ q<|.inr e)) λe=>ZO s q i (sL l e) d;rw[Ru g]at d;exact ZO s h i f d
theorem WO{j F:Nat}(w:fW X a)(u:fW X b)(r:kA D=X.κ)(s:Sg D t)(h:oG X a b m A B C)(f:B+1<a.size)(d:C<b.size)(l:∀y,b[C]? =aA y->∀v∈La a B,Le X y v):WL X a b D (m+2) (g1 a b A B C j k F) t:=by obtain⟨y,g,z⟩:=BA d;unfold oG at h;rw[z]at h;have q:=h.pB<|l y g;obtain⟨x,i,o⟩:=(w.w4 (d:=B) (n:=1)<|dR f).p7 0 tO;refine lC g<|nC (λe=>dG<|.m0 s (FZ q<|.inr e)) λe=>lC i ?_;have c:=sL (fq d) e;exact pO<|Et (u.w4<|bW<|oL<|dR c) o (s.n5 r) (BP c) λH p=>aJ4 s q f c i p
theorem Yu{L Q P:Nat}(x:fW X a)(w:fW X b)(l:kA D=X.κ)(s:Sg D t)(h:lQ X a b m A B C):WL X a b D (m+1) (gS a b A B C L Q P) t:=by
 obtain⟨h,o,i⟩:=h;have d:=dR<|oN o;refine IK s λt s=> ?_;obtain⟨y,H,M⟩:=(w.w4 (d:=C) (n:=1) i).p7 0 tO;refine lC H<|pO<|Et (x.w4<|bW<|oL d) M (s.n5 l) (BP<|oN o) λk p=> ?_;have J:B+k<=a.size:=aVG d p.le;have j:∀z,b[C]? =aA z->∀v∈La a (B+k),Le X z v:=λz F=>(aV<|H.symm.trans F)▸p.I4 rfl (oL d);have I:∀{c:SS (ForInStep MT)},WL X a b D (m+2) c t->WL X a b D (m+1) c t:=λh=>LJ h λr t q=>by
  induction q with
  |m0 s h=>exact .m0 s h
  |r5 s h=>exact .r5 s ⟨⟨h.ml.ms,EU h.ml.hm⟩,h.ha,h.hb⟩
  |go s h=>exact .go s ⟨⟨h.ml.ms,EU h.ml.hm⟩,h.ha,h.hb⟩
 refine kN (λR=> ?_) λg=> ?_;obtain⟨z,F,K⟩:=BA i;have q:oG X a b m (A++a.extract B (B+k)) (B+k) C:=by unfold oG at h⊢;rw[MY J,K]at h;rw[K];exact h.xA λu N=>h.ms.J8 (d:=Le X) HR<|aV (H.symm.trans F)▸p.I7 rfl u N
 exact nC (λe=>dG<|.m0 s (Pt q e)) λe=>nC (λe=>dG<|.m0 s (FZ q<|.inl e)) λf=>I<|WO x w l s q (sL (sL J f) e) i j;rw[Ru g]at j;exact I<|WO x w l s h o i j
theorem aLW{v K J:Nat}{o:Option AK}(I:fW X a)(H:fW X b)(F:kA D=X.κ)(s:Sg D t)(h:lQ X a b m A B C):WL X a b D (m+1) (iB a b v (o,A,B,C,K,J)) t:=by
 obtain⟨h,f,d⟩:=h;obtain⟨y,i,w⟩:=(H.w4 (d:=C) (n:=1) d).p7 0 tO;obtain⟨x,k,z⟩:=(I.w4 (d:=B) (n:=1)<|dR f).p7 0 tO;obtain⟨L,g,p⟩:=BA d;obtain⟨M,j,r⟩:=BA<|oN f;obtain rfl:=aV<|i.symm.trans g;obtain rfl:=aV<|k.symm.trans j;refine lC i<|lC k<|VT w z (s.n5 F) (λc=>lC i ?_) λc=>lC k ?_;unfold oG at h;rw[p,r]at h;have q:=h.pB<|h.ms.J3 (d:=Le X) HR<|dR c;rw[←r]at q;exact nC (λe=>dG<|.m0 s (FZ q<|.inr e)) λe=>
  have l:lQ X a b (m+1) (A.push y) B (C+1):=⟨q,f,sL (fq d) e⟩;kN (λu=>dG<|.r5 s l) λu=>dG<|.go s l
 unfold oG at h;rw[p,r]at h;have q:=h.pA<|h.ms.J8 (d:=Le X) HR c;rw[←p]at q;exact eA s q f d
theorem oH.j4{i j:Nat}{c:AK×Nat×Nat×E}(l:i<=j)(h:oH X a b j c):oH X a b i c:=⟨⟨h.ml.ms,aR l h.ml.hm⟩,h.ha,h.hb⟩
theorem oH.no{c:AK×Nat×Nat×E}(h:oH X a b m c):m<=a.size+b.size:=aR h.ml.hm<|aR h.ml.ms.M7<|bW cM
theorem aJG{Q:AK->cZ->Prop}{y:cJ}(j:fW X a)(i:fW X b)(g:kA D=X.κ)(h:oG X a b 1 #[y] 0 1)(n:0<a.size)(l:0<b.size)(q:∀xs t,Sg D t->FnM X a b xs->Q xs t):Ws X (Zh a b y) Q D:=by
 refine nC (λe=>dG<|q _ _ rfl<|FZ h<|.inr e) λv=>nC (λe=>dG<|q _ _ rfl<|Pt h e) λu=>mM<|Cd ?_;refine DW (n:=λf f=>False) (e:=oH X a b) (a:=FnM X a b) (k:=1) (λf h=>h) oH.no (λm o c t p s h=> ?_) rfl (bT 1) ⟨h,sL n u,sL l v⟩ λr t d=> ?_;refine DW (n:=oH X a b) (e:=oH X a b) (a:=FnM X a b) oH.j4 oH.no (λm o c t f s h=>aLW j i g s h) s p h λr t d=> ?_;induction d with
 |m0 s h=>exact dG<|.m0 s h
 |r5 s h=>
  refine DP (DW (n:=oH X a b) (e:=oH X a b) (a:=FnM X a b) oH.j4 oH.no (λm o c t f s h=> ?_) s (gM m) h λr t d=> ?_);exact kN (λf=>Yu j i g s h) λf=>Yu j i g s h;induction d with
  |m0 s h=>exact dG<|.m0 s h
  |r5 s h=>exact IK s λt s=>dG<|.go s (oH.j4 (jC _) h)
 induction d with
 |m0 s h=>exact dG<|q _ _ s h
 |r5 s h=>exact h.elim
theorem ph{Q:AK->cZ->Prop}(j:fW X a)(i:fW X b)(f:kA D=X.κ)(h:oG X a b 0 #[] 0 0)(e:∀y,b[0]? =aA y->∀v∈La a 0,Le X y v)(g:0<a.size)(c:0<b.size)(q:∀xs t,Sg D t->FnM X a b xs->Q xs t):Ws X (JX a b) Q D:=by rw[aCG];obtain⟨y,d,k⟩:=BA c;unfold oG at h;rw[k]at h;exact DP<|lC d<|aJG j i f (h.pB<|e y d) g c q
end
end
section
noncomputable abbrev Ge(X:Sx)(x y:cJ):Prop:=X.rk y<=X.rk x
noncomputable abbrev nX(X:Sx)(a b:AK)(m:Nat)(A:AK)(C B:Nat):Prop:=ML (PP a b) (Lt b B) (Lt a C) (Ge X) m A
structure iW(X:Sx)(a b:AK)(m:Nat)(A:AK)(C B:Nat):Prop where
 ml:nX X a b m A C B
 ha:0<C
 sa:C<=a.size
 hb:1<B
 sb:B<=b.size
noncomputable abbrev nR{E:Type}(X:Sx)(a b:AK)(m:Nat)(c:Nat×Nat×AK×E):Prop:=iW X a b m c.2.2.1 c.1 c.2.1
noncomputable abbrev WH{E:Type}(X:Sx)(a b:AK)(D:cZ)(m:Nat)(p:SS (ForInStep<|Option AK×Nat×Nat×AK×E))(t:cZ):Prop:=WM X D t (nR X a b m) (nR X a b m) (FnM X a b) p
section
variable{X:Sx}{a b A:AK}{C B m k:Nat}{D t:cZ}{E:Type}{u v:E}{x:cJ}
theorem IX{x y z:cJ}(h:Ge X x y)(g:Ge X y z):Ge X x z:=aR g h
theorem XA{l:List cJ}(h:Mg (Ge X) (PP a b) l):Mg (Le X) (PP a b) l.reverse:=⟨(aR5 l).trans h.l7,aR6.mpr h.up⟩
theorem Kb(h:nX X a b m A C B)(e:C=0\/B=0):FnM X a b (vC a b A C B):=by have q:=XA<|h.ms.M8<|e.symm.imp (λe=>(aN (Lt b) e).trans Ps) λe=>(aN (Lt a) e).trans Ps;rw[LK,LK,Lt,Lt,Lk,Lk,←dK]at q;rw[FnM,vC,xC,xC,Rq];exact q
theorem IQ(h:nX X a b m A C B)(e:B=1)(d:0<b.size):FnM X a b (DL a b A C B):=by subst e;obtain⟨x,_,c⟩:=AX tO d;have q:=h.ms;rw[Ps]at c;rw[c]at q;have q:=XA q.v6;rw[←c,LK,LK,Lt,Lt,Lk,Lk,←dK]at q;rw[FnM,DL,xC,xC,Rq];exact q
theorem eB{d:Prop} [Decidable d]{w:Nat×Nat×AK×E}(s:Sg D t)(h:nX X a b m A C B)(f:C<=a.size)(i:1<B)(c:B<=b.size):WH X a b D m (if(C==0)=aB then bB (.done (aA<|vC a b A C B,w))else if d then bB (.done (aC,C,B,A,u))else bB (.yield (aC,C,B,A,v))) t:=
 nC (λe=>dG<|.m0 s (Kb h<|.inl e)) λe=>
  have l:iW X a b m A C B:=⟨h,HD e,f,i,c⟩;kN (λg=>dG<|.r5 s l) λg=>dG<|.go s l
theorem Ud{f g:Nat}(s:Sg D t)(h:nX X a b m A C B)(l:0<C)(c:C<=a.size)(j:1<B)(e:B<=b.size)(i:∀x,a[C-1]? =aA x->∀v∈Lt b B,Ge X x v):WH X a b D (m+1) (y4 a b C B A f k g) t:=by obtain⟨x,d,n⟩:=AX l c;unfold nX at h;rw[n]at h;exact lC d<|eB s (h.pB<|i x d) (aR (pI ..) c) j e
theorem Sn{n j:Nat}{b:cJ}(p:Pl X b a 0 n j):∀v∈Lt a j,Ge X b v:=λv c=>p.I7 (jH j) v<|Lz.mp c
theorem TF{n j:Nat}{b:cJ}(p:Pl X b a 0 n j):∀v∈(a.extract j n).reverse.toList,Ge X v b:=λv c=>p.I4 (jH j) (jH n) v<|Lz.mp<|Rq▸c
theorem aDR{z H j:Nat}(s:Sg D t)(h:nX X a b m A C B)(l:0<C)(d:C<=a.size)(o:1<B)(c:B<=b.size)(r:a[C-1]? =aA x)(p:Pl X x b 0 B j):WH X a b D (m+1) (y3 a b C B A z k H<|aA j) t:=by
 have i:∀y,a[C-1]? =aA y->∀v∈Lt b j,Ge X y v:=λy n=>(aV<|r.symm.trans n)▸Sn p;refine kN (λI=> ?_) λg=> ?_;obtain⟨y,n,w⟩:=AX l d;have q:nX X a b m (A++(b.extract j B).reverse) C j:=by unfold nX at h⊢;rw[Pv p.le,w]at h;rw[w];exact h.xA λu F=>h.ms.J8 (d:=Ge X) IX<|aV (r.symm.trans n)▸TF p u F
 exact nC (λe=>dG<|.m0 s (IQ q e<|cO (oN o) c)) λe=>nC (λe=>dG<|.m0 s (Kb q<|.inr e)) λf=>
  Ud s q l d (sL (HD f)<|tQ e) (aR p.le c) i
 rw[qC p.le (Rm<|Ru g)]at i;exact Ud s h l d o c i
theorem Xm{r J:Nat}(H:fW X a)(F:fW X b)(z:kA D=X.κ)(s:Sg D t)(h:nX X a b m A C B)(j:0<C)(i:C<=a.size)(g:1<B)(f:B<=b.size)(u:∀y,b[B-1]? =aA y->∀v∈Lt a C,Ge X y v):WH X a b D (m+2) (y1 a b C B A r k J) t:=by obtain⟨y,l,I⟩:=AX (oN g) f;unfold nX at h;rw[I]at h;have q:=h.pA<|u y l;obtain⟨x,o,w⟩:=(H.w4 (d:=C-1) (n:=1)<|(LL j).symm▸i).p7 0 tO;refine lC l<|nC (λe=>dG<|.m0 s (IQ q e<|cO (oN g) f)) λe=>lC o ?_;have d:1<B-1:=sL (aRQ g)<|tQ e;have c:=aR (pI B 1) f;exact pO<|Et (F.w4<|(jH _).symm▸c) w (s.n5 z) (HB d) λK p=>aDR s q j i d c o p
theorem Wd{M R Q:Nat}(F:fW X a)(x:fW X b)(o:kA D=X.κ)(s:Sg D t)(h:iW X a b m A C B):WH X a b D (m+1) (yS a b C B A M R Q) t:=by
 obtain⟨h,K,k,w,i⟩:=h;have d:=oN w;refine IK s λt s=> ?_;obtain⟨y,I,N⟩:=(x.w4 (d:=B-1) (n:=1)<|(LL d).symm▸i).p7 0 tO;refine lC I<|pO<|Et (F.w4<|(jH _).symm▸k) N (s.n5 o) (HB K) λj p=> ?_;have l:∀z,b[B-1]? =aA z->∀v∈Lt a j,Ge X z v:=λz H=>(aV<|I.symm.trans H)▸Sn p;have J:∀{c:SS (ForInStep MH)},WH X a b D (m+2) c t->WH X a b D (m+1) c t:=λh=>LJ h λr t q=>by
  induction q with
  |m0 s h=>exact .m0 s h
  |r5 s h=>exact .r5 s ⟨⟨h.ml.ms,EU h.ml.hm⟩,h.ha,h.sa,h.hb,h.sb⟩
  |go s h=>exact .go s ⟨⟨h.ml.ms,EU h.ml.hm⟩,h.ha,h.sa,h.hb,h.sb⟩
 refine kN (λS=> ?_) λg=> ?_;obtain⟨z,H,L⟩:=AX d i;have q:nX X a b m (A++(a.extract j C).reverse) j B:=by unfold nX at h⊢;rw[Pv p.le,L]at h;rw[L];exact h.xB λu P=>h.ms.J3 (d:=Ge X) IX<|aV (I.symm.trans H)▸TF p u P
 exact nC (λe=>dG<|.m0 s (Kb q<|.inl e)) λf=>J<|Xm F x o s q (HD f) (aR p.le k) w i l;rw[qC p.le (Rm<|Ru g)]at l;exact J<|Xm F x o s h K k w i l
theorem aDU{F N M:Nat}{o:Option AK}(L:fW X a)(K:fW X b)(J:kA D=X.κ)(s:Sg D t)(h:iW X a b m A C B):WH X a b D (m+1) (xB a b F (o,C,B,A,N,M)) t:=by
 obtain⟨h,j,g,i,f⟩:=h;have d:=oN i;obtain⟨y,p,H⟩:=(K.w4 (d:=B-1) (n:=1)<|(LL d).symm▸f).p7 0 tO;obtain⟨x,u,I⟩:=(L.w4 (d:=C-1) (n:=1)<|(LL j).symm▸g).p7 0 tO;obtain⟨P,k,v⟩:=AX d f;obtain⟨Q,r,w⟩:=AX j g;obtain rfl:=aV<|p.symm.trans k;obtain rfl:=aV<|u.symm.trans r;refine lC p<|lC u<|VT H I (s.n5 J) (λc=>lC u ?_) λc=>lC p ?_;unfold nX at h;rw[v,w]at h;have q:=h.pB<|h.ms.J3 (d:=Ge X) IX<|dR c;rw[←v]at q;exact eB s q (aR (pI ..) g) i f;unfold nX at h;rw[v,w]at h;have q:=h.pA<|h.ms.J8 (d:=Ge X) IX c;rw[←w]at q;exact nC (λe=>dG<|.m0 s (IQ q e<|cO d f)) λe=>
  have l:iW X a b (m+1) (A.push y) C (B-1):=⟨q,j,g,sL (aRQ i)<|tQ e,aR (pI ..) f⟩;kN (λz=>dG<|.r5 s l) λz=>dG<|.go s l
theorem nR.j4{i j:Nat}{c:Nat×Nat×AK×E}(l:i<=j)(h:nR X a b j c):nR X a b i c:=⟨⟨h.ml.ms,aR l h.ml.hm⟩,h.ha,h.sa,h.hb,h.sb⟩
theorem nR.no{c:Nat×Nat×AK×E}(h:nR X a b m c):m<=a.size+b.size:=aR h.ml.hm<|aR h.ml.ms.M7<|bW cM
theorem ui{Q:AK->cZ->Prop}(j:fW X a)(i:fW X b)(g:kA D=X.κ)(h:nX X a b 0 #[] a.size b.size)(p:∀y,a[a.size-1]? =aA y->∀v∈Lt b b.size,Ge X y v)(u:0<a.size)(l:0<b.size)(q:∀xs t,Sg D t->FnM X a b xs->Q xs t):Ws X (Jm a b) Q D:=by
 rw[aD5];obtain⟨y,n,x⟩:=AX u<|bT _;unfold nX at h;rw[x]at h;have h:nX X a b 1 #[y] (a.size-1) b.size:=h.pB<|p y n;refine DP<|lC n<|nC (λe=>dG<|q _ _ rfl<|Kb h<|.inl e) λF=>nC (λe=>dG<|q _ _ rfl<|IQ h e l) λz=>mM<|Cd ?_;refine DW (n:=λf f=>False) (e:=nR X a b) (a:=FnM X a b) (k:=1) (λf h=>h) nR.no (λm o c t w s h=> ?_) rfl (bT 1) ⟨h,HD F,pI ..,sL l<|tQ z,bT _⟩ λr t d=> ?_;refine DW (n:=nR X a b) (e:=nR X a b) (a:=FnM X a b) nR.j4 nR.no (λm o c t f s h=>aDU j i g s h) s w h λr t d=> ?_;induction d with
 |m0 s h=>exact dG<|.m0 s h
 |r5 s h=>
  refine DP (DW (n:=nR X a b) (e:=nR X a b) (a:=FnM X a b) nR.j4 nR.no (λm o c t f s h=> ?_) s (gM m) h λr t d=> ?_);exact kN (λf=>Wd j i g s h) λf=>Wd j i g s h;induction d with
  |m0 s h=>exact dG<|.m0 s h
  |r5 s h=>exact IK s λt s=>dG<|.go s (nR.j4 (jC _) h)
 induction d with
 |m0 s h=>exact dG<|q _ _ s h
 |r5 s h=>exact h.elim
end
end
section
structure SB(X:Sx)(o:cZ):Prop where
 l7:(fL o).toList.Perm X.l9.toList
 n5:kA o=X.κ
 ok:Cb o=aC
section
variable{X:Sx}{a b d:AK}{l n k j D J L K N:Nat}{F x:cJ}{o t:cZ}{E:Type}{Q:E->cZ->Prop}{U V A B M C z r p:List cJ}{H I:List rT}
theorem CA(e:d.toList=U++(A++V))(a:U.length=l)(b:k<A.length):d[l+k]? =A[k]? :=by rw[←mZ,e,←a,uR<|dI ..,wY,rC b]
theorem hG.of(e:d.toList=U++(A++V))(h:U.length=l)(k:A.length=n)(m:A.Pairwise (Le X))(f:∀x∈A,x∈X.l9):hG X d l n where
 p7:=λi a=>⟨_,(CA e h<|k▸a).trans<|iA<|k▸a,f _<|EY _⟩
 r8:=λi j b c=>by
  subst k;have a:=fZ b c;rw[wD ((CA e h a).trans<|iA a),wD<|(CA e h c).trans<|iA c];rcases HC b with g|g
  exact Dj.mp m _ _ a c g;subst g;exact bT _
theorem JR{i j:Nat}(e:d.toList=U++(A++V))(a:U.length=i)(b:i+A.length=j):(d.extract i j).toList=A:=by rw[gf,e,gg,←a,List.drop_left,←b,←a,wY,List.take_left]
theorem ye:∀(M A U:List cJ) (n:Nat) (d:AK),A.length=M.length->d.toList=U++(A++V)->U.length=D+n->((M.zipIdx n).foldl (λa (x:cJ×Nat)=>a.setIfInBounds (D+x.2) x.1) d).toList=U++(M++V):=by
 intro M;induction M with
 |nil=>intro A U n d h e _;rw[Dz h]at e;exact e
 |cons m M c=>
  intro A U n d h e b;induction A using bM with
  |nil=>exact aZ h (Ls _).symm
  |cons a A=>
   have:=c A (U++[m]) (n+1) (d.setIfInBounds (D+n) m) (nP h) (by rw[aR7,e,←b,QQ _ _<|bT _,yT,dK];rfl) (by rw[cM,b];rfl)
   rw[dK]at this;exact this
theorem aGQ{x:cZ}{f:PUnit->SS E}(h:Ws X (f ⟨⟩) Q x):Ws X (set x>>=f) Q o:=by refine mM ?_;unfold wpS;rw[StateT.run_set];exact bA ⟨rfl,h⟩
theorem aEN{b:cJ->cJ->Prop}(j:(C++z).Pairwise b)(i:(r++p).Pairwise b)(f:∀u∈C,∀v∈r++p,b u v)(k:∀u∈C++z,∀v∈p,b u v)(h:Mg b (z++r) M):Mg b ((C++z)++(r++p)) (C++(M++p)) where
 l7:=by rw[dK];exact .append_left _ (by rw[←dK];exact h.l7.append_right p)
 up:=by
  obtain⟨s,w,q⟩:=pZ.mp j;obtain⟨t,n,m⟩:=pZ.mp i;have c:∀u∈M,u∈z\/u∈r:=λu a=>fU.mp<|h.l7.mem_iff.mp a;exact pZ.mpr ⟨s,pZ.mpr ⟨h.up,n,λu a v e=>(c u a).elim (λg=>k u (kM _ g) v e) λg=>m u g v e⟩,
   λu a v e=>(fU.mp e).elim (λg=>(c v g).elim (λg=>q u a v g) λg=>f u a v<|rG _ g) λg=>f u a v<|kM _ g⟩
structure Db(X:Sx)(A B:List cJ):Prop where
 N1:∀y,B[0]? =aA y->∀v∈A,Le X y v
 a7:∀x,A[A.length-1]? =aA x->∀v∈B,Le X v x
theorem UN{a:List cJ}(e:A=a++[x]):A[A.length-1]? =aA x:=by rw[e,cM,List.length_singleton,Nat.add_sub_cancel,uR<|bT _,yT];rfl
theorem aCW{P:AK->cZ->Prop}(j:fW X a)(i:fW X b)(A:kA o=X.κ)(w:Db X a.toList b.toList)(M:0<a.size)(B:0<b.size)(q:∀xs t,Sg o t->FnM X a b xs->P xs t){c:Prop} [Decidable c]{f:AK->SS E}(u:∀xs t,P xs t->Ws X (f xs) Q t):Ws X (if c then JX a b>>=f else Jm a b>>=f) Q o:=by
 have m:∀a:AK,La a 0=a.toList:=λa=>by rw[La,aVH]
 have k:∀a:AK,Lt a a.size=a.toList.reverse:=λa=>by rw[Lt,aVH]
 refine kN (λR=>pO ?_) λR=>pO ?_;refine ph j i A ⟨?_,eO _⟩ (λy g=> ?_) M B λxs t s h=>u _ _<|q xs t s h;rw[m,m];exact⟨.refl _,j.up,i.up,λS x e=>w.a7 x<|UN e⟩;rw[m];exact w.N1 y<|mZ▸g;refine ui j i A ⟨?_,eO _⟩ (λy g v n=> ?_) M B λxs t s h=>u _ _<|q xs t s h;rw[k,k];refine⟨((aR5 _).append<|aR5 _).trans aVD,aR6.mpr i.up,aR6.mpr j.up,λS x e y g=>w.N1 x ?_ y<|Lz.mp g⟩;rw[←Lk b.toList,e,LK];rfl;rw[k]at n;exact w.a7 y (mZ▸g) v<|Lz.mp n
end
end
section
section
variable{X:Sx}{a b K:AK}{I n k j d o C F J:Nat}{L x y:cJ}{c t:cZ}{N:Type}{Q:Bool->cZ->Prop}{U V A B M i f D E:List cJ}{w H:List rT}
theorem nr(b:A.Pairwise (Le X))(h:A[0]? =aA y):∀v∈A,Le X y v:=λv a=>by
 induction A using bM with
 |nil=>cases a
 |cons z A=>obtain rfl:=aV h;exact(dA.mp a).elim (λe=>bW<|e▸rfl) λg=>aR2 b g
theorem aOC(b:A.Pairwise (Le X))(h:A[A.length-1]? =aA x):∀v∈A,Le X v x:=λv a=>by
 rcases List.eq_nil_or_concat A with e|⟨l,z,e⟩
 replace a:=e▸a;cases a;rw[List.concat_eq_append]at e;subst e;obtain rfl:=aV<|(UN rfl).symm.trans h;exact(fU.mp a).elim (λg=>(pZ.mp b).2.2 v g _<|dU.mpr rfl) λg=>bW<|dU.mp g▸rfl
theorem NC(h:k<=A.length):∃i f,A=i++f/\i.length=k:=⟨_,_,(EG k A).symm,gh h⟩
theorem SB.w3{b:List cJ}(a:SB X c)(e:(fL c).toList=U++(M++V))(g:b.Perm M)(h:kA t=kA c)(j:Cb t=Cb c)(k:(fL t).toList=U++(b++V)):SB X t:=
 ⟨k▸(aR1 U<|g.append_right V).trans (e▸a.l7),h.trans a.n5,j.trans a.ok⟩
theorem aIR(hB:SB X c)(hp:(gA c).toList=w++(d,o,F)::(d+o,C,J)::H)(e:(fL c).toList=U++((A++B)++V))(T:U.length=d)(R:A.length=o)(z:B.length=C)(h1:0<o)(h2:0<C)(uA:A.Pairwise (Le X))(uB:B.Pairwise (Le X))
  (q:∀t M,SB X t->Mg (Le X) (A++B) M->(gA t).toList=w++(d,o+C,F)::H->(fL t).toList=U++(M++V)->Q aB t):Ws X (Rh w.length) Q c:=by
 rw[aJ7];have mem:∀x∈A++B,x∈X.l9:=λx hx=>yV.mp<|hB.l7.mem_iff.mp<|e▸kM U (rG V hx);have b:∀x∈A,x∈X.l9:=λx h=>mem x<|rG B h;have S:∀x∈B,x∈X.l9:=λx h=>mem x<|kM A h;have ea:(fL c).toList=U++(A++(B++V)):=by rw[e,dK A]
 have eb:(fL c).toList=(U++A)++(B++V):=by rw[ea,dK]
 have n:(U++A).length=d+o:=by rw[cM,T,R]
 refine mM (Cd ?_);have g1:(gA c)[w.length]? =aA (d,o,F):=by rw[←mZ,hp,uR<|bT _,yT];rfl
 have g2:(gA c)[w.length+1]? =aA (d+o,C,J):=by rw[←mZ,hp,uR<|dI _ 1,wY];rfl
 rw[g1,g2];refine aGQ ?_;have a:(((gA c).setIfInBounds w.length (d,o+C,F)).eraseIdxIfInBounds<|w.length+1).toList=w++(d,o+C,F)::H:=by rw[Array.toList_eraseIdxIfInBounds,aR7,hp,QQ _ _<|bT _,yT,List.eraseIdx_append_of_length_le<|dI _ 1,wY];rfl
 revert a;generalize((gA c).setIfInBounds w.length (d,o+C,F)).eraseIdxIfInBounds (w.length+1)=pd;intro a;have l:(∀u∈A,∀v∈B,Le X u v)->Q aB (HA c pd):=λh=>q _ (A++B) ⟨hB.l7,hB.n5,hB.ok⟩ ⟨.refl _,pZ.mpr ⟨uA,uB,h⟩⟩ a e;have kd:kA (HA c pd)=X.κ:=hB.n5;have rB:=hG.of eb n z uB S;obtain⟨y,ey,hy⟩:=rB.p7 0 h2;have ey':B[0]? =aA y:=(CA eb n<|z▸h2).symm.trans ey;refine lC ey<|pO<|Et (hG.of ea T R uA b) hy kd h1 λk p=> ?_;obtain⟨i,f,rfl,hk⟩:=NC<|R▸p.le;have ea1:(fL c).toList=U++(i++(f++(B++V))):=by rw[ea,dK i]
 have ea2:(fL c).toList=(U++i)++(f++(B++V)):=by rw[ea1,dK]
 have hu2:(U++i).length=d+k:=by rw[cM,T,hk]
 have Y:f.length=o-k:=by rw[←R,cM,hk,wY]
 have l3:d+k+f.length=d+o:=by rw[Y,kX,oL p.le]
 have x1:=JR ea1 T (aN (d+·) hk);have x2:=JR ea2 hu2 l3;have c1:∀u∈i,∀v∈B,Le X u v:=λu T v Z=>aR (p.I7 rfl u<|x1▸T)<|nr uB ey' v Z;refine nC (λe0=>dG<|l ?_) λe0=> ?_
 ·rw[Dz (Y.trans e0),fS];exact c1
 have pk:0<o-k:=HD e0;have lx:f.length-1<f.length:=HB<|Y▸pk;obtain⟨x,ex',hx⟩:∃x,f[f.length-1]? =aA x/\x∈f:=⟨_,iA lx,EY lx⟩;have ex:=(CA ea2 hu2 lx).trans ex';rw[←aR8 (Y▸pk),Y]at ex;refine lC ex<|pO<|Et rB (b _<|kM i hx) kd (HB h2) λj r=> ?_;have c2:∀u∈i++f,Le X u x:=aOC uA (by rw[cM,aR8<|Y▸pk,uR<|dI ..,wY];exact ex')
 obtain⟨D,E,rfl,hj⟩:=NC<|z▸r.le;have eb1:(fL c).toList=(U++(i++f))++(D++(E++V)):=by rw[eb,dK D]
 have eb2:(fL c).toList=((U++(i++f))++D)++(E++V):=by rw[eb1,dK _ D]
 have z1:=JR eb1 n (aN (d+o+·) hj);have z2:=JR (j:=d+o+C) eb2 (by rw[cM,n,hj]) (by rw[←z,cM,hj,kX])
 have c3:∀u∈i++f,∀v∈E,Le X u v:=λu T v Z=>aR (c2 u T)<|r.I4 rfl rfl v<|z2▸Z;refine nC (λe1=>dG<|l ?_) λe1=> ?_
 ·rw[Dz (hj.trans e1),aUQ];exact c3
 have szB:0<D.length:=hj▸HD e1;refine aCW (o:=HA c pd) (P:=λxs t=>Sg (HA c pd) t/\Mg (Le X) (f++D) xs.toList) ⟨?_,?_⟩ ⟨?_,?_⟩ kd ?_ ?_ ?_ (λxs t s h=>⟨s,?_⟩) λm t h=>mM<|Rr<|mM<|Cd ?_
 ·rw[x2];exactλx h=>b x<|kM i h
 ·rw[x2];exact(pZ.mp uA).2.1
 ·rw[z1];exactλx h=>S x<|rG E h
 ·rw[z1];exact(pZ.mp uB).1
 ·rw[x2,z1];refine⟨λy' ey2 v Z=> ?_,λx' ex2 v Z=> ?_⟩;rw[rC szB]at ey';obtain rfl:=aV<|ey'.symm.trans ey2;exact p.I4 rfl rfl v<|x2▸Z;obtain rfl:=aV<|ex'.symm.trans ex2;exact r.I7 rfl v<|z1▸Z
 ·rw[←pL,x2,Y];exact pk
 ·rw[←pL,z1];exact szB
 ·unfold FnM PP at h;(replace h:=x2▸h;replace h:=z1▸h);exact h
 ·obtain⟨s,h⟩:=h;have sk:kA t=kA c:=(aN kA s:);have sa':fL t=fL c:=(aN fL s:);have sp:gA t=pd:=(aN gA s:);have sf:Cb t=Cb c:=(aN Cb s:);have g:=aEN uA uB c1 c3 h;have pt:=ye (D:=d+k) (V:=E++V) m.toList (f++D) (U++i) 0 (fL t) h.l7.length_eq.symm (by rw[sa',ea2,dK,dK,dK,dK]) hu2
  have e':(Uq m.toList (d+k)<|fL t).toList=U++((i++(m.toList++E))++V):=by rw[dK i,dK m.toList,←dK U];exact pt
  show Ws X (bB (Cb t).isNone) _ _;rw[sf,hB.ok];exact dG<|q _ _ (hB.w3 e g.l7 sk sf e') g (sp▸a) e'
end
end
section
noncomputable def Mn(A:Nat->Nat->Prop)(r:Nat->Nat)(i j:Nat):Prop:=∀p q,i<=p->p<=q->q<j->A (r p) (r q)
noncomputable abbrev ge(a b:Nat):Prop:=b<=a
abbrev eG(X:Sx)(w:cZ):Nat->Nat:=mF X<|fL w
structure Sy(X:Sx)(z B:Nat)(w t:cZ):Prop where
 sb:SB X t
 K0:gA t=gA w
 r5:∀k,k<z\/B<=k->(fL t)[k]? =(fL w)[k]?
section
variable{X:Sx}{i j k z B n m q l:Nat}{w t u:cZ}{C:Type}{Q:C->cZ->Prop}{A:Nat->Nat->Prop}{r:Nat->Nat}
theorem Mn.F7(n:∀a,A a a)(m:∀{a b c},A a b->A b c->A a c)(h:Mn A r i (j+1))(e:A (r j) (r<|j+1)):Mn A r i (j+2):=λp q k d o=>by
 rcases HC (gW o)with g|g
 exact h p q k d g;subst g;rcases HC d with f|f
 exact m (h p j k (gW f)<|jY j) e;subst f;exact n _
theorem Mn.p9(b:∀a,A a a):Mn A r i (i+1):=λp q e d c=>by rw[qC d (aR (gW c) e)];exact b _
theorem SB.i9(h:SB X w):(fL w).size=X.l9.size:=h.l7.length_eq
theorem SB.v4(h:SB X w):Sy X z B w w:=⟨h,rfl,λa a=>rfl⟩
theorem Sy.tr(h:Sy X z B w t)(g:Sy X z B t u):Sy X z B w u:=⟨g.sb,g.K0.trans h.K0,λk a=>(g.r5 k a).trans<|h.r5 k a⟩
theorem GC{f:Option Bool->SS C}(b:SB X w)(B:i<X.l9.size)(o:j<X.l9.size)(d:eG X w i<eG X w j->Ws X (f<|aA aB) Q w)(c:eG X w j<=eG X w i->Ws X (f<|aA aI) Q w):Ws X (LI i j>>=f) Q w:=by
 have a:∀{i},i<X.l9.size->∃x,(fL w)[i]? =aA x/\x∈X.l9:=λh=>
  have e:=b.i9▸h
  ⟨_,lJ e,yV.mp<|b.l7.mem_iff.mp<|yV.mpr<|aR4 e⟩
 obtain⟨x,k,n⟩:=a B;obtain⟨y,g,m⟩:=a o;rw[eG,wD k,wD g]at d c;rw[ltAt'_eq];refine pO<|mM<|Cd ?_;exact lC k<|lC g<|Oy n m b.n5 d c
theorem mx(b:i<=k)(a:k<j):i+(j-(k+1))<j:=fZ (Dy b _)<|uX (aR9 (jY k) _)<|oL a
theorem VI{f:Unit->SS C}(d:SB X w)(r:j<=X.l9.size)(u:z<=i)(s:j<=B)(h:∀t,Sy X z B w t->(∀k,i<=k->k<j->eG X t k=eG X w (i+(j-(k+1))))->(∀k,¬(i<=k/\k<j)->eG X t k=eG X w k)->Ws X (f ()) Q t):Ws X (Hz i j>>=f) Q w:=by have m:j<=(fL w).size:=d.i9▸r;have p:∀{xs n:AK} {a b:Nat},xs[a]? =n[b]? ->mF X xs a=mF X n b:=λe=>aN (λo=>(hV X.rk o).getD 0) e;refine mM<|wpS_reverse<|h _ ⟨⟨(aVI.mp<|mirror_perm ..).trans d.l7,d.n5,d.ok⟩,rfl,λk q=> ?_⟩ (λk a b=>p ?_) λk c=>p<|(aSA m k).trans<|bH c;refine(aSA m k).trans<|bH λc=> ?_;exact q.elim (λg=>aZ (aR u c.1)<|Rs g) λg=>aZ (cO c.2 s)<|eI.mpr g;rw[←aR8 (show k+1<=j from b),kY k 1,←Nat.sub_sub];exact(aSA m k).trans<|bO ⟨a,b⟩
theorem Yx{f:Unit->SS C}(d:SB X w)(b:j<=X.l9.size)(g:z<=i)(e:j<=B)(a:∀k,i<=k->k<j->eG X w k=n)(h:∀t,Sy X z B w t->eG X t=eG X w->Ws X (f ()) Q t):Ws X (Hz i j>>=f) Q w:=
 VI d b g e λt s o m=>h t s (funext λk=>by
  by_cases c:i<=k/\k<j
  rw[o k c.1 c.2,a k c.1 c.2,a _ (dI ..)<|mx c.1 c.2];exact m k c)
inductive Ri (X:Sx) (w:cZ) (z a l:Nat):UT->cZ->Prop
 |mk {n:Nat}:a<=n->n<=l->Mn (· <=·) (eG X w) z (z+n)->(n=l\/eG X w (z+n)<eG X w (z+n-1))->Ri X w z a l (aC,n) w
theorem Uz{a:Nat}{g:UT->SS C}(o:SB X w)(k:z+l<=X.l9.size)(n:0<a)(i:a<=l)(h:Mn (· <=·) (eG X w) z (z+a))(q:∀c,Ri X w z a l c w->Ws X (g c) Q w):Ws X (jD [a:l] ((aC,a):UT) (λp=>NR z)>>=g) Q w:=by refine CK (λx c t=>t=w/\c=(aC,x)/\Mn (· <=·) (eG X w) z (z+x)) (Ri X w z a l) ?_ ?_ ⟨rfl,rfl,h⟩ λc t d=> ?_;rintro x c t f j ⟨rfl,rfl,m⟩;obtain⟨y,rfl⟩:=Fb<|jQ<|cO n f;have e:=cO (rF j z) k;exact GC o e (oN e) (λc=>dG<|.mk f (dR j) m (.inr c)) λc=>dG ⟨rfl,rfl,m.F7 bT aR c⟩;rintro c t ⟨rfl,rfl,m⟩;rw[fy i]at m⊢;exact .mk i (bT _) m (.inl rfl);induction d with|mk a b c d=>exact q _<|.mk a b c d
structure Cr(X:Sx)(w:cZ)(z l m:Nat)(t:cZ):Prop where
 sy:Sy X z (z+l) w t
 pos:0<m
 le:m<=l
 up:Mn (· <=·) (eG X t) z (z+m)
theorem WY{Q:Option Nat->cZ->Prop}(s:Sy X z (z+l) w t)(i:z+l<=X.l9.size)(k:0<n)(f:n<=l)(h:Mn ge (eG X t) z (z+n))(q:∀m t,Cr X w z l m t->Q (aA m) t):Ws X (Mt z n l) Q t:=by have j:=fG f z;refine VI s.sb (aR j i) (bT _) j λu g e o=>Uz g.sb i k f (λp q a b c=> ?_) λc d=> ?_;rw[e p a (fZ b c),e q (aR a b) c];exact h _ _ (dI ..) (fG (Rj (gZ b) _) _)<|mx a<|fZ b c;cases d with|mk a b c d=>exact dG<|q _ _ ⟨s.tr g,cO k a,b,c⟩
end
end
section
inductive Fa (X:Sx) (A:cZ) (z w y:Nat):FT->cZ->Prop
 |mk {q:Nat} {t:cZ}:Sy X z (z+w) A t->Mn ge (eG X t) z (z+y+1)->q<=y->(∀i,z+y<=i+q->i<=z+y->eG X t i=eG X t (z+y))->Fa X A z w y (aC,y+1,q) t
section
variable{X:Sx}{i j k z B n m q w:Nat}{A t u:cZ}{Q:Option Nat->cZ->Prop}
theorem Mn.dn{r:Nat->Nat}(h:Mn ge r i (j+1))(e:r (j+1)<=r j):Mn ge r i (j+2):=Mn.F7 (A:=ge) bT (λh g=>aR g h) h e
theorem Fa.j6(s:Sy X z (z+w) A t)(h:Mn ge (eG X t) z (z+n+1)):Fa X A z w n (aC,n+1,0) t:= .mk s h (eO _) λi a b=>aN _<|qC b a
theorem VQ{f:Unit->SS c}{P:c->cZ->Prop}(s:Sy X z (z+w) A t)(m:z+w<=X.l9.size)(g:n<w)(j:q<=n)(o:∀i,z+n<=i+q->i<=z+n->eG X t i=eG X t (z+n))(h:∀u,Sy X z (z+w) A u->eG X u=eG X t->Ws X (f ()) P u):Ws X (Hz (z+(n+1)-(q+1)) (z+(n+1))>>=f) P t:=by have e:z+(n+1)-(q+1)=z+n-q:=Nat.add_sub_add_right (z+n) 1 q;rw[e];have l:=fG g z;exact Yx s.sb (aR l m) (aVJ<|fG j z) l (λk a b=>o k (Nat.sub_le_iff_le_add.mp a)<|gW b) λu d e=>h u (s.tr d) e
theorem WU(s:Sy X z (z+w) A t)(l:z+w<=X.l9.size)(v:n<w)(h:Mn ge (eG X t) z (z+n+1))(q:∀m t,Cr X A z w m t->Q (aA m) t):Ws X (PT z n w) Q t:=by
 refine DP (CK (λx c t=>∃y,x=y+1/\Fa X A z w y c t) (λc t=>∃y,y<w/\Fa X A z w y c t) ?_ ?_ ⟨n,rfl,.j6 s h⟩ ?_);rintro x c t-C ⟨y,rfl,d⟩;have f:=cO (rF C z) l;have j:=oN C;induction d with
 |mk s h k o=>
  refine GC s.sb f (oN f) (λc=> ?_) λc=>GC s.sb (oN f) f (λp=>dG ⟨y,j,.mk s h k o⟩) λd=>dG ⟨y+1,rfl,.mk s (h.dn d) (gZ k) λi a b=> ?_⟩;have h:=h.dn<|dR c;exact kN (λp=>VQ s l j k o λu r e=>dG ⟨y+1,rfl,.j6 r (e▸h)⟩) λp=>dG ⟨y+1,rfl,.j6 s h⟩;rcases HC b with g|g
  exact(o i (BZ a)<|gW g).trans (qC c d);rw[g]
 rintro c t ⟨y,e,d⟩;rw[fy v]at e;exact⟨y,uX (jY y) e.symm,d⟩;rintro c t ⟨y,j,d⟩;induction d with
 |mk s h k o=>exact kN (λp=>VQ s l j k o λu r e=>WY r l (gM y) j (e▸h) q) λp=>WY s l (gM y) j h q
theorem nj(x:z+w<=X.l9.size)(F:0<w)(r:SB X A)(q:∀m t,Cr X A z w m t->Q (aA m) t):Ws X (countRun' z w) Q A:=by
 rw[aL1];refine Uz r x tO F (Mn.p9 bT) λc d=> ?_;cases d with
 | @mk n a b m o=>
 have v:Q (aA n) A:=q n A ⟨r.v4,a,b,m⟩;refine nC (λE=>dG v) λC=> ?_;have l:=o.resolve_left C;have f:=sL b C;obtain⟨k,rfl⟩:=Fb<|jQ a;have y:=cO (rF f z) x;have D:∀{t},eG X t=eG X A->(∀i,z<=i->i<z+(k+1)->eG X A i=eG X A (z+k))->Mn ge (eG X t) z (z+(k+1)+1):=λe u=>by rw[e];refine Mn.dn (j:=z+k) (λp q a b c=> ?_)<|dR l;rw[u p a (fZ b c),u q (aR a b) c];exact bT _
 refine kN (λg=>GC r (fZ (dI ..) y) (oN y) (λE=>dG v) λc=> ?_) λg=> ?_;have u:∀i,z<=i->i<z+(k+1)->eG X A i=eG X A (z+k):=λi a b=>qC (m i _ a (gW b)<|jY _)<|aR c<|m z i (bT _) a b;exact Yx r (dR y) (bT _) (fG b z) u λt s e=>WU s x f (D e u) q;obtain rfl:k=0:=Ru λh=>g<|fk h;exact WU r.v4 x f (D rfl λi a b=>aN _<|qC (gW b) a) q
end
end
section
section
variable{X:Sx}{i j k l w B n m z:Nat}{y t u:cZ}{A:Type}
theorem aGE{f:Unit->SS A}{Q:A->cZ->Prop}(d:SB X y)(q:l<=k)(r:k<n)(u:w+n<=X.l9.size)(h:∀t,Sy X w (w+n) y t->(∀i,i<w+l->eG X t i=eG X y i)->eG X t (w+l)=eG X y (w+k)->(∀i,w+l<=i->i<w+k->eG X t (i+1)=eG X y i)->Ws X (f ()) Q t):Ws X (moveDown' (w+k) (w+l)>>=f) Q y:=by
 have s:w+k<(fL y).size:=d.i9▸cO (rF r w) u;have v:w+k-(w+k-(w+l))=w+l:=Nat.sub_sub_self<|fG q w;have e:=λi=>getElem?_bubble s (w+k-(w+l)) (pI ..) i;replace e:=v▸e;have j:∀{xs m:AK} {a b:Nat},xs[a]? =m[b]? ->mF X xs a=mF X m b:=λe=>aN (λo=>(hV X.rk o).getD 0) e;have p:∀{i},i<w+l\/w+k<i->(bubble (fL y) (w+k)<|w+k-(w+l))[i]? =(fL y)[i]? :=λ{i} c=>by rw[e i,bH,bH];exactλg=>c.elim (λc=>aZ c<|eI.mpr<|dR g.1) λc=>aZ c<|eI.mpr g.2;exactλg=>c.elim (λc=>aZ g<|lU c) λc=>aZ (g▸c)<|eI.mpr<|fG q w
 rw[moveDown'_eq];refine mM<|Rr<|h _ ⟨⟨(aVI.mp<|bubble_perm ..).trans d.l7,d.n5,d.ok⟩,rfl,λi c=>p<|c.imp (λc=>cO c<|dI ..) λc=>cO (rF r w) c⟩ (λi c=>j<|p<|.inl c) (j<|(e _).trans<|bO rfl) λi a b=>j ?_;refine(e _).trans<|(bH<|jQ<|BX a).trans<|bO ⟨BX a,b⟩
theorem Cx(a q:Nat):q<a\/q=a\/∃p,q=p+1/\a<=p:=by
 rcases gi q a with h|h|h
 exact .inl h;exact .inr (.inl h);obtain⟨p,rfl⟩:=Fb<|jQ<|fZ (eO a) h;exact .inr (.inr ⟨p,rfl,gW h⟩)
theorem wv{Q:Bool->cZ->Prop}(S:SB X y)(M:w+n<=X.l9.size)(U:0<z)(E:z<=n)(m:Mn (· <=·) (eG X y) w (w+z))(q:∀t,Sy X w (w+n) y t->Mn (· <=·) (eG X t) w (w+n)->Q aB t):Ws X (aRW w n z) Q y:=by
 rw[aBO,Nat.max_eq_left U];refine pO (wpS_forRange (λk c t=>c=(aC,())/\Sy X w (w+n) y t/\Mn (· <=·) (eG X t) w (w+k)) (Q:=λc t=>Ws X (XM c) Q t) ?_ ?_ ⟨rfl,S.v4,m⟩);rintro k c t-N ⟨rfl,s,m⟩;have D:=cO (rF N w) M;refine gl (X:=X) (f:=To w k) (g:=WF w k) (λx l r=>l<=r/\r<=k/\r-l<=k-x/\(∀i,w<=i->i<w+l->eG X t i<=eG X t (w+k))/\∀i,w+r<=i->i<w+k->eG X t (w+k)<=eG X t i)
  (λl Y=>l<=k/\(∀i,w<=i->i<w+l->eG X t i<=eG X t (w+k))/\∀i,w+l<=i->i<w+k->eG X t (w+k)<=eG X t i) ?_ ?_ ⟨eO _,bT _,bT _,λi a b=>aZ b<|eI.mpr a,λi a b=>aZ b<|eI.mpr a⟩ ?_
 rintro x l r-⟨a,b,c,o,C⟩;refine kN (λg=> ?_) λg=> ?_;obtain rfl:=qC a g;exact dG<|Gi.mk ⟨b,o,C⟩;have g:=EZ g;have I:(l+r)/2<r:=aVK (by rw[Nat.two_mul];exact aR9 g r)
 have H:l<=(l+r)/2:=(aVL Rp).mpr (by rw[Nat.mul_two];exact fG a l)
 have L:=cO I b;have K:=rF L w;refine GC s.sb D (Hy K D) (λd=>dG<|Gi.mk ⟨H,dR L,aRY<|cO (aVM H I) c,o,λi u v=>aR (dR d)<|m _ i (dI ..) u v⟩)
  λd=>dG<|Gi.mk ⟨I,b,aR (Rj (gZ H) r)<|aRX c,λi u v=>aR (m i _ u (gW v) K) d,C⟩
 rintro x l r e ⟨a,b,c,o,C⟩;obtain rfl:=qC a<|Rm<|dz.mp<|bj e▸c;exact⟨b,o,C⟩;rintro l r ⟨b,o,C⟩;refine aGE s.sb b N M λu R P J F=>ft ⟨rfl,s.tr R,λp q E h T=> ?_⟩;have j:=gW T;rcases Cx (w+l) p with g|g|⟨p,rfl,g⟩
 rw[P p g];rcases Cx (w+l) q with f|f|⟨q,rfl,f⟩
 rw[P q f];exact m p q E h<|cO f<|fG b w;rw[f,J];exact o p E g;rw[F q f j];exact m p q E (aR (dR g) f) j;rw[g,J];rcases Cx (w+l) q with f|f|⟨q,rfl,f⟩
 exact aZ (fZ h f) (eI.mpr<|bW g.symm);rw[f,J];exact bT _;rw[F q f j];exact C q f j;obtain⟨q,rfl⟩:=Fb<|jQ<|cO (gM p) h;have h:=BZ h;rw[F p g (fZ h j),F q (aR g h) j];exact m p q (aR (dI ..) g) h j;rintro c t ⟨rfl,s,m⟩;rw[fy E]at m;exact dG<|q t s m
end
end
section
inductive Ch (X:Sx):List rT->Nat->List cJ->Prop
 |t8 {s:Nat}:Ch X [] s []
 |t6 {s n p:Nat} {l:List rT} {A L:List cJ}:A.length=n->0<n->A.Pairwise (Le X)->Ch X l (s+n) L->Ch X ((s,n,p)::l) s (A++L)
inductive Sp (X:Sx) (l:List rT) (s:Nat) (L:List cJ) (i:Nat):Prop
 |mk {L1 L2:List rT} {sa na pa nb pb:Nat} {U A B V:List cJ}:l=L1++(sa,na,pa)::(sa+na,nb,pb)::L2->L1.length=i->L=U++((A++B)++V)->s+U.length=sa->A.length=na->B.length=nb->0<na->0<nb->A.Pairwise (Le X)->B.Pairwise (Le X)->
  (∀M,M.length=na+nb->M.Pairwise (Le X)->Ch X (L1++(sa,na+nb,pa)::L2) s (U++(M++V)))->Sp X l s L i
structure fJ(X:Sx)(w:cZ)(L R:List cJ):Prop where
 sb:SB X w
 ch:Ch X (gA w).toList 0 L
 r9:(fL w).toList=L++R
section
variable{X:Sx}{i k o C n m s y:Nat}{w t u:cZ}{I:Type}{l H:List rT}{L R A E F:List cJ}{D:AK}
theorem Ch.sp(h:Ch X l s L):∀{i},i+1<l.length->Sp X l s L i:=by
 induction h with
 |t8=>exactλh=>aZ h<|uP _
 | @t6 s n p l A L q m t x v=>
  intro i C;induction i using fO with
  |zero=>
   cases x with
   |t8=>exact aZ C<|rH _
   |t6 K J B z=>exact .mk (L1:=[]) (U:=[]) rfl rfl (dK ..).symm rfl q K m J t B λM e u=> .t6 (A:=M) e (Nat.add_pos_left m _) u (kX .. ▸z)
  |succ i=>
   induction v (gj C)with
   | @mk r Y P T R S Q U _ _ V a b c d e f g h i j k=>
    refine .mk (L1:=(s,n,p)::r) (U:=A++U) (aN (_::·) a) (aN (· +1) b) (by rw[c,dK A]) (by rw[cM,q,←kX];exact d) e f g h i j λM N u=> ?_
    rw[dK A];exact .t6 q m t (k M N u)
theorem Ch.j7(h:Ch X l s L)(g:Ch X H (s+L.length) E):Ch X (l++H) s (L++E):=by
 induction h with
 |t8=>exact g
 |t6 a d c _ b=>rw[dK];exact .t6 a d c (b (by rw[cM,a,←kX]at g;exact g))
theorem Ch.f7(h:Ch X l s L):l.length<=L.length:=by
 induction h with
 |t8=>exact bT _
 |t6 c b _ _ a=>rw[cM,c,kY];exact iR a b
theorem Ch.Q2{f:rT->rT}(q:∀a b c,∃d,f (a,b,c)=(a,b,d))(h:Ch X l s L):∀i,Ch X (l.modify i f) s L:=by
 induction h with
 |t8=>intro i;rw[az];exact .t8
 | @t6 s n p l A L k j g r m=>
  intro i;induction i using fO with
  |zero=>obtain⟨d,e⟩:=q s n p;rw[List.modify_zero_cons,e];exact .t6 k j g r
  |succ i=>rw[List.modify_succ_cons];exact .t6 k j g (m i)
theorem Ch.p9(h:Ch X l s L)(a:l.length<=1):L.Pairwise (Le X):=by
 cases h with
 |t8=>exact .nil
 |t6 e d c b=>
  cases b with
  |t8=>rw[fS];exact c
  |t6=>exact aZ (BZ a)<|aQ8 _
theorem VO{Q:Bool->cZ->Prop}(h:fJ X w L R)(C:i+1<(gA w).size)(q:∀t E,fJ X t E R->E.length=L.length->(gA t).size+1=(gA w).size->Q aB t):Ws X (Rh i) Q w:=by
 induction h.ch.sp C with
 | @mk K J v B z A x U _ _ V a b c d e f g s i j k=>
  subst b;have n:∀M:List cJ,(U++(M++V)).length=U.length+(M.length+V.length):=λM=>by rw[cM,cM]
  refine aIR h.sb a (by rw[h.r9,c,dK,dK _ _ R]) ((jH _).symm.trans d) e f g s i j λt M r l p u=> ?_
  have m:=l.l7.length_eq;refine q t _ ⟨r,p▸k M (by rw[m,cM,e,f]) l.up,by rw[u,dK,dK]⟩ (by rw[c,n,n,m]) ?_
  rw[←pL,←pL,p,a,cM,cM];rfl
theorem Mn.up(e:D.toList=L++(A++R))(c:L.length=o)(d:A.length=m)(h:Mn (· <=·) (mF X D) o (o+m)):A.Pairwise (Le X):=by subst d;refine Dj.mpr λi j C a b=> ?_;have r:=h _ _ (dI ..) (fG (dR b) o)<|rF a o;rw[wD ((CA e c C).trans<|iA C),wD<|(CA e c a).trans<|iA a]at r;exact r
theorem fJ.E3(h:fJ X w L R)(b:L.length=o)(s:Sy X o C w t)(f:o+m<=X.l9.size)(d:Mn (· <=·) (eG X t) o (o+m)):∃A F,fJ X t L (A++F)/\A.length=m/\A.Pairwise (Le X):=by
 have i:(fL t).toList.take o=L:=aVN λk=>by
  rcases Dk k o with g|g
  rw[aVO g,mZ,s.r5 k<|.inl g,←mZ,h.r9,rC<|b▸g];rw[uW (aR (aVB ..) g),uW<|b▸g]
 have a:=(EG o (fL t).toList).symm;rw[i]at a;obtain⟨A,F,e,c⟩:=Internal.S.NC (A:=(fL t).toList.drop o) (k:=m) (by rw[Hp,pL,s.sb.i9];exact aVJ<|kY o m▸f)
 rw[e]at a;exact⟨A,F,⟨s.sb,s.K0▸h.ch,a⟩,c,d.up a b c⟩
inductive vT (X:Sx) (o:Nat) (R:List cJ):WT->cZ->Prop
 |mk {L:List cJ} {t:cZ}:fJ X t L R->L.length=o->vT X o R (aC,()) t
inductive Er (X:Sx) (o:Nat) (R:List cJ):ForInStep NT->cZ->Prop
 |mk {L:List cJ} {t:cZ}:fJ X t L R->L.length=o->Er X o R (.yield (aC,o)) t
theorem UL(h:fJ X w L (A++R))(a:L.length=o)(b:A.length=n)(d:0<n)(c:A.Pairwise (Le X)):Ws X (PJ o n) (Er X (o+n) R) w:=
 mM (Rr (dG (.mk (L:=L++A) ⟨⟨h.sb.l7,h.sb.n5,h.sb.ok⟩,by show Ch X ((gA w).push (o,n,0)).toList 0 (L++A);rw[Rt];exact h.ch.j7 (by rw[jH,a,←fS A];exact .t6 b d c .t8),by rw[dK];exact h.r9⟩ (by rw[cM,a,b]))))
theorem aHT(h:fJ X w L (A++R))(g:L.length=o)(u:A.length=n)(v:0<n)(m:A.Pairwise (Le X)):Ws X (IJ y o n) (Er X (o+n) R) w:=by
 refine mM (Cd ?_);cases(gA w).back? with
 |none=>exact UL h g u v m
 |some p=>
  obtain⟨q,l,z⟩:=p;show Ws X (jD [0:y] _ _>>=SJ o n _) _ _;generalize power' y (2*q+l) (2*q+l+l+n) y=s;refine CK (f:=Ut s) (λi=>vT X o<|A++R) (vT X o<|A++R) (λx c t i i d=> ?_) (λc t d=>d) (.mk h g) λc t d=> ?_;induction d with
  | @mk L t h g=>
   refine mM (Cd ?_);by_cases j:(gA t).size>1;rw[bO j];cases(gA t)[(gA t).size-2]? with
   |none=>exact dG<|.mk h g
   |some p=>obtain⟨a,b,k⟩:=p;refine kN (λi=>dG<|.mk h g) λi=>pO<|VO h ?_ λt E r e i=>dG<|.mk r (e.trans g);exact fZ (bW<|aRH<|BP j)<|HB j
   rw[bH j];exact dG<|.mk h g
  induction d with
  | @mk L t h g=>refine mM<|Rr<|UL ⟨⟨h.sb.l7,h.sb.n5,h.sb.ok⟩,?_,h.r9⟩ g u v m;show Ch X ((gA t).modify _ _).toList 0 L;rw[Array.toList_modify];exact h.ch.Q2 (λa b c=>⟨s,rfl⟩) _
end
end
section
inductive Ln (X:Sx) (x:Nat):NT->cZ->Prop
 |mk {j:Nat} {L R:List cJ} {t:cZ}:fJ X t L R->L.length=j->x<=j->Ln X x (aC,j) t
inductive Ld (X:Sx):NT->cZ->Prop
 |mk {j:Nat} {L:List cJ} {t:cZ}:fJ X t L []->Ld X (aC,j) t
inductive Lw (X:Sx) (n:Nat):WT->cZ->Prop
 |mk {L:List cJ} {t:cZ}:fJ X t L []->(gA t).size<=n->Lw X n (aC,()) t
section
variable{X:Sx}{i k j C n m s p x y:Nat}{o t u:cZ}{L R A B w:List cJ}{c:NT}
theorem fJ.P0(h:fJ X t L R):L.length+R.length=X.l9.size:=cM.symm.trans<|(aN EH h.r9).symm.trans h.sb.i9
theorem TR{t:cZ}(h:Ln X x c t)(g:X.l9.size<=x\/X.l9.size<=c.2):Ld X c t:=by
 induction h with
 |mk r e l=>have f:=r.P0;replace f:=e▸f;have g:=g.elim (λg=>aR g l) id;have z:=Dz<|Nat.eq_zero_of_le_zero<|er (f▸g:_+_<=_+0);exact .mk (z▸r)
theorem TK(c:x<=j)(h:fJ X o L (A++R))(d:L.length=j)(f:A.length=n)(a:0<n)(b:A.Pairwise (Le X)):Ws X (IJ p j n) (ID (Ld X)<|Ln X<|x+1) o:=
 LJ (aHT h d f a b) λr t q=>by
  induction q with
  |mk r e=>exact .mk r e (iR c a)
theorem aCE(h:Ln X x c o):Ws X (Tq X.l9.size y c) (ID (Ld X)<|Ln X<|x+1) o:=by
 induction h with
 | @mk j L R o r e l=>
  refine kN (λg=>dG<|TR (.mk r e l)<|.inr g) λg=> ?_;have g:j<X.l9.size:=EZ g;have k:j+(X.l9.size-j)=X.l9.size:=oL<|dR g;refine pO<|nj (bW k) (BP g) r.sb λn t a=> ?_;have s:=aR (fG a.le j)<|bW k;refine kN (λF=> ?_) λE=> ?_;have v:n<=tI (X.l9.size-j) y:=aRZ.mpr ⟨a.le,dR F⟩;have q:=aR (fG (QR (X.l9.size-j) y) j)<|bW k;refine DP (pO (wv a.sy.sb q a.pos v a.up λu z m=>kN (λf=>(by contradiction)) λE=> ?_))
  obtain⟨A,w,i,d,b⟩:=r.E3 e a.sy s a.up;obtain⟨A,w,D,d,b⟩:=i.E3 e z q m;exact TK l D e d (cO a.pos v) b;obtain⟨A,w,i,d,b⟩:=r.E3 e a.sy s a.up;exact TK l i e d a.pos b
theorem aDW{c:Prop} [Decidable c]{a b n:Nat}(e:a<n)(d:b<n):(if c then a else b)<n:=by
 by_cases h:c
 rw[bO h];exact e;rw[bH h];exact d
theorem aEW{Q:Unit->cZ->Prop}(b:SB X o)(i:(gA o).toList=[])(q:∀t,SB X t->(fL t).toList.Pairwise (Le X)->Q () t):Ws X sortRuns' Q o:=by
 rw[aKT];refine mM<|Cd ?_;rw[b.i9];refine CK (Ln X) (Ld X) (λx c t a a h=>aCE h) (λc t h=>TR h<|.inl (fw ..)) (.mk (L:=[]) ⟨b,i▸ .t8,rfl⟩ rfl (bT 0)) λc t d=> ?_;induction d with
 | @mk j L t r=>
  refine CK (λx=>Lw X<|X.l9.size-x) (Lw X 1) (λx c t a a d=> ?_) (λc t d=> ?_) (.mk r (aR r.ch.f7<|bW r.P0)) λc t d=> ?_;induction d with
  | @mk L t r h=>refine mM<|Cd<|kN (λg=>dG<|.mk r g) λg=>pO<|VO r ?_ λt B r e z=>dG<|.mk r (aRY<|cO (uX (jY _) z) h);have f:=HB<|BP<|EZ g;exact aRK<|aDW (fZ (pI ..) f) f
  induction d with
  |mk r h=>exact .mk r (aR h<|aR (bW<|bj<|fw ..)<|eO 1)
  induction d with
  |mk r h=>exact dG (q _ r.sb (by rw[r.r9,fS];exact r.ch.p9 h))
end
end
open Internal
section
noncomputable def pS{d:Type}(g:V->d):V->List d
 | .a8 l=>l.map g
 |_=>[]
noncomputable def nK(l:List V)(r:V->Nat):Prop:=∀u∈l,∀v∈l,Dc u v=aA (aQ<|r u<r v)/\(r u=r v->u=v)
section
variable{l m:List V}{r:V->Nat}{u v x:V}
theorem Fv{p:V->Bool}(h:xF p v=aB):∃l,v= .a8 l/\l.isEmpty=aI/\l.all p=aB:=by
 induction v using V.casesOn with
 |a8 l=>exact⟨l,rfl,by rw[←mL];exact(sK.mp h).1,(sK.mp h).2⟩
 |_=>exact iE h
section
variable{d:Type} [LT d] [DecidableEq d] [DecidableLT d] [Std.Irrefl (α:=d) (· <·)]{p:V->Bool}{g:V->d}
structure Vw(p:V->Bool)(g:V->d):Prop where
 u5:∀a b,p a=aB->p b=aB->g a=g b->a=b
 L7:∀a b,p a=aB->p b=aB->lD 1 a b=aA (aQ<|g a=g b)
 L6:∀a b,p a=aB->p b=aB->DR a b=aA (aQ<|g a<g b)
theorem Vw.Q7(w:Vw p g)(f:l.all p=aB)(c:m.all p=aB):DF l m=aA (aQ<|l.map g<m.map g):=by
 induction l generalizing m with
 |nil=>induction m using bM with
  |nil=>rfl
  |cons b m=>exact aN aA (cU<|aUX ..).symm
 |cons a l i=>
  induction m using bM with
  |nil=>exact aN aA (fM<|fb _).symm
  |cons b m=>rw[Dn,oM]at f c;show(lD 1 a b).bind _=_;refine aE (w.L7 a b f.1 c.1) ?_;by_cases e:g a=g b;refine aE (cU e) ?_;exact(i f.2 c.2).trans (aN aA (decide_eq_decide.mpr ⟨λh=>AH.mpr<|.inr ⟨e,h⟩,λh=>(AH.mp h).elim (λh=>aZ (e▸h) (Std.Irrefl.irrefl (r:=(· <· :d->d->Prop)) _)) λh=>h.2⟩));rw[fM e];exact(w.L6 a b f.1 c.1).trans<|aN aA<|decide_eq_decide.mpr ⟨λh=>AH.mpr<|.inl h,λh=>(AH.mp h).elim id λh=>aZ h.1 e⟩
omit [Std.Irrefl (α:=d) (· <·)]in
theorem Vw.R8(w:Vw p g)(e:l.all p=aB)(c:m.all p=aB)(h:l.map g=m.map g):l=m:=by
 induction l generalizing m with
 |nil=>induction m using bM with
  |nil=>rfl
  |cons b m=>exact Fh h
 |cons a l f=>
  induction m using bM with
  |nil=>exact vR h
  |cons b m=>rw[Dn,oM]at e c;have h:=BM h;exact aE (w.u5 a b e.1 c.1 h.1)<|aE (f e.2 c.2 h.2) rfl
theorem Vw.O8 [Trans (α:=d) (β:=d) (γ:=d) (· <·) (· <·) (· <·)] [Std.Trichotomous (α:=d) (· <·)](w:Vw p g)(h:l.all (xF p)=aB):∃r,nK l r:=by
 refine⟨λv=>l.countP λz=>aQ<|pS g z<pS g v,λu j v B=> ?_⟩;have o:∀{u v},u∈l->pS g u<pS g v->(l.countP λz=>aQ<|pS g z<pS g u)<l.countP λz=>aQ (pS g z<pS g v):=λ{u v} j A=>by
  have f:∀m:List V,(m.countP λz=>aQ<|pS g z<pS g u)<=m.countP λz=>aQ (pS g z<pS g v):=λm=>aVP λz F e=>cU<|ff (bQ e) A;obtain⟨s,t,rfl⟩:=aU6 j
  (refine aE aVQ ?_;refine aE aVQ ?_;refine aE aVR ?_;refine aE aVR ?_;refine aE (fM<|fg _) ?_;refine aE (cU A) ?_)
  exact aVS (f s) (BX<|f t)
 have C:=λx H=>Fv<|cX.mp h x H;obtain⟨K,E,_,y⟩:=C u j;obtain⟨J,D,_,q⟩:=C v B;have I:Dc u v=aA (aQ<|pS g u<pS g v):=by(refine aE E ?_;refine aE D ?_);exact w.Q7 y q
 have i:∀{a b:List d},¬a<b->¬b<a->a=b:=λn c=>aUY (fe.mp c)<|fe.mp n;refine⟨I.trans<|aN aA<|decide_eq_decide.mpr ⟨o j,λh=>aa λn=> ?_⟩,λh=> ?_⟩;refine aZ h<|eI.mpr<|aVP λz F e=>cU ?_;have e:=bQ e;by_cases c:pS g v<pS g u;exact ff e c;exact i n c▸e;have k:=i (λc=>lU (o j c) h) λc=>lU (o B c) h.symm;rw[E,D]at k⊢;exact aN V.a8<|w.R8 y q k
end
noncomputable def iOf:V->Int
 | .a5 i=>i
 |_=>0
noncomputable def sOf:V->List Nat
 | .d9 c=>c.cps.toList
 |_=>[]
theorem iVw:Vw Eb iOf where
 u5 a b e c h:=by cases a<;>first|exact iE e|cases b<;>first|exact iE c|exact aN V.a5 h
 L7 a b e c:=by cases a<;>first|exact iE e|cases b<;>first|exact iE c|rfl
 L6 a b e c:=by cases a<;>first|exact iE e|cases b<;>first|exact iE c|rfl
theorem WK{a b:aX}(h:a.cps.toList=b.cps.toList):a=b:=bQ<|(TP a b).symm.trans<|beq_iff_eq.mpr h
theorem qo:Vw CB sOf where
 u5 a b e c h:=by cases a<;>first|exact iE e|cases b<;>first|exact iE c|exact aN V.d9<|WK h
 L7 a b e c:=by cases a<;>first|exact iE e|cases b<;>first|exact iE c|exact aN aA (decide_eq_decide.mpr ⟨λh=>by exact aE h rfl,WK⟩)
 L6 a b e c:=by cases a<;>first|exact iE e|cases b<;>first|exact iE c|rfl
theorem Vq(h:jL l=aB):∃r,nK l r:=(AI.mp h).elim iVw.O8 qo.O8
end
end
section
section
variable{l m:List V}{r:V->Nat}{u v x:V}
theorem nK.e7(h:nK l r)(p:∀a∈m,a∈l):nK m r:=λu c v b=>h u (p u c) v<|p v b
theorem UU(x:V)(l:List V):(uC x l).Perm (x::l):=by
 induction l with
 |nil=>exact .refl _
 |cons y l a=>show(if Bj x y=aB then x::y::l else y::uC x l).Perm _;by_cases e:Bj x y=aB;rw[bO e];refine aE (bH e) ?_;exact(a.cons y).trans<|.swap x y l
theorem Ga(l:List V):(nY l).Perm l:=by
 induction l with
 |nil=>exact .refl _
 |cons x l a=>exact(UU x _).trans<|a.cons x
noncomputable abbrev Hd(r:V->Nat)(l:List V):Prop:=l.Pairwise λu v=>r u<=r v
theorem wf(h:nK (x::l) r)(c:Hd r l):Hd r (uC x l):=by
 induction l with
 |nil=>exact Dm ..
 |cons y l i=>have q:Bj x y=aQ (r x<r y):=aN (KT · aI) (h x (.head _) y<|.tail _ (.head _)).1;show Hd r (if Bj x y=aB then x::y::l else y::uC x l);refine aE q ?_;have⟨d,k⟩:=EV.mp c;by_cases e:r x<r y;refine aE (bO<|cU e) ?_;exact .cons (λz b=>(dA.mp b).elim (λf=>f▸dR e) λf=>aR (dR e)<|d z f) c;rw[bH λf=>e<|bQ f];exact .cons (λz b=>(dA.mp<|(UU x l).mem_iff.mp b).elim (λf=>f▸Dq e)<|d z) (i (h.e7 λa j=>(dA.mp j).elim (λf=>f▸ .head _) λf=> .tail _ (.tail _ f)) k)
theorem Wc(h:nK l r):Hd r (nY l):=by
 induction l with
 |nil=>exact .nil
 |cons x l b=>exact wf (h.e7 λa c=>(((Ga l).cons x).mem_iff (a:=a)).mp c)<|b<|h.e7 λa=> .tail _
theorem Ur(h:nK l r)(p:l.Perm m)(c:Hd r m):nY l=m:=
 List.Perm.eq_of_pairwise (λa b e d i f=>(h a ((Ga l).mem_iff.mp e) b<|p.mem_iff.mpr d).2<|qC i f) (Wc h) c ((Ga l).trans p)
end
section
variable{D J:Type}{R:D->J->Prop}{l:List D}{xs H:List J}
theorem F2.l7(p:xs.Perm H):∀{l},F2 R l xs->∃m,l.Perm m/\F2 R m H:=by
 induction p with
 |nil=>exactλh=>⟨_,.refl _,h⟩
 |cons x _ j=>
  intro l h;induction l using bM with
  |nil=>exact vR h
  |cons v l=>cases h with|mk a b=>obtain⟨m,p,q⟩:=j b;exact⟨v::m,p.cons v,.mk a q⟩
 |swap x y _=>
  intro l h;induction l using bM with
  |nil=>exact vR h
  |cons u l=>cases h with|mk a b=>cases l with
   |nil=>exact vR b
   |cons v l=>cases b with|mk b c=>exact⟨v::u::l,.swap ..,.mk b (.mk a c)⟩
 |trans _ _ e d=>intro l h;obtain⟨m,p,q⟩:=e h;obtain⟨n,i,f⟩:=d q;exact⟨n,p.trans i,f⟩
theorem F2.M2(h:F2 R l xs):F2 (λb a=>R a b) xs l:=by
 induction l generalizing xs with
 |nil=>subst h;exact rfl
 |cons a l c=>induction h with|mk a b=>exact .mk a (c b)
end
section
variable{w:aW}{K:aH}{B:Th}{s I:aF}{A:bN}{E:aD->aF->Prop}{l C o:List V}{g t:List aD}{r:V->Nat}{b:Bool}{x y:aD}{u v:V}
theorem aK8{R:V->aD->Prop}{e:cJ->Nat}(n:nK l r)(F:F2 R l g)(d:∀v (x:cJ),x.1=x.2->R v x.2->e x=r v){xs:List cJ}(p:xs.Perm (DD g).toList)(j:xs.Pairwise λx y=>e x<=e y):F2 R (nY l) (xs.map (·.2)):=by
 rw[pairsOf_toList]at p;have G:F2 (λv (x:cJ)=>x.1=x.2/\R v x.2) l (g.zip g):=by
  clear p;induction l generalizing g with
  |nil=>subst F;exact rfl
  |cons a l f=>induction F with|mk a b=>exact .mk ⟨rfl,a⟩ (f (n.e7 λa=> .tail _) b)
 obtain⟨m,k,i⟩:=F2.l7 p.symm G;rw[Ur n k (i.M2.M3 (λa u b s h q c=>by(replace c:=(d _ _ h.1 h.2)▸c;replace c:=(d _ _ q.1 q.2)▸c);exact c) j)]
 clear p j k;induction m generalizing xs with
 |nil=>subst i;exact rfl
 |cons a l f=>induction i with|mk a b=>exact .mk a.2 (f b)
theorem aLA{e:Bool}{Q:Bool->aF->Prop}(c:Rv w B s u x)(a:Rv w B s v y)(h:DR u v=aA b)(q:Q b s):aL (Md w) A (oneLt' e x y) Q E s:=by
 induction e using eT with
 |false=>exact kat_one x y<|IE c.rw a.rw h (Q:=PySem.W.BoolBack Q) q
 |true=>
  induction u using V.casesOn with
  |a5 i=>induction v using V.casesOn with
   |a5 j=>cases c;cases a;(injection h with d;subst d);exact oneLt_int q
   |_=>exact nn h
  |d9 i=>induction v using V.casesOn with
   |d9 j=>cases c;cases a;(injection h with d;subst d);exact kas_lt_str q
   |_=>exact nn h
  |_=>exact nn h
theorem aDK(P:Ap B)(u:A.units+10<dO){Q:Bool->aF->Prop}{i:Nat}(m:Rl w B s C g)(e:Rl w B s o t)(h:DF C o=aA b)(q:Q b s):KatLex sF w A aB (aQ<|g.length<t.length) Q (g.zip t) i s:=by
 induction C generalizing o g t i with
 |nil=>
  subst m;induction o using bM with
  |nil=>subst e;(injection h with a;subst a);exact kat_nil q
  |cons c o=>cases e;(injection h with a;subst a);exact kat_nil<|cU (gM _)▸q
 |cons c C r=>
  induction m with| @mk p g l x=>
  induction o using bM with
  |nil=>subst e;(injection h with a;subst a);exact kat_nil<|fM (uP _)▸q
  |cons d o=>
   induction e with| @mk n t j v=>
   refine aE (show aQ ((p::g).length<(n::t).length)=aQ (g.length<t.length)from decide_eq_decide.mpr aS0) ?_;change(lD 1 c d).bind _=aA b at h;cases f:lD 1 c d with
   |none=>replace h:=f▸h;exact nn h
   |some k=>
    replace h:=f▸h;refine kat_cons<|(BE P 1 _ _ _ _ _ (um u (k:=3)) l.rw j.rw f).go P l j f _ _ _ _ ?_;induction k using eT with
    |true=>exact kat_yes<|r x v h
    |false=>exact kat_no<|aLA l j h q
end
end
section
section
variable{w:aW}{F:aH}{f:Th}{s j:aF}{A:bN}{E:aD->aF->Prop}{l H B C:List V}{d D:List aD}{r:V->Nat}{x y:aD}{u v:V}{a:aM}{n:Nat}
noncomputable def Ie(w:aW)(f:Th)(s:aF)(x:cJ):V:=Classical.epsilon (h:=⟨V.h9⟩) λv=>Rv w f s v x.1
theorem Pj(P:Ap f){x:cJ}(h:Rv w f s v x.1):Ie w f s x=v:=JV P _ _ _ (Classical.epsilon_spec (p:=λv=>Rv w f s v x.1) ⟨v,h⟩) h
theorem Yp(h:jL l=aB):∃p,(p=Internal.Eb\/p=Internal.CB)/\l.all (xF p)=aB:=(AI.mp h).elim (λh=>⟨_,.inl rfl,h⟩) λh=>⟨_,.inr rfl,h⟩
def Pe(A:bN)(E:aD->aF->Prop)(P:Ap f)(L:A.units+10<dO)(M:jL l=aB)(N:nK l r)(R:Rl w f s l d):Sx where
 w:=w
 A:=A
 E:=E
 s:=s
 l9:=DD d
 κ:=tuples' aB
 rk:=λx=>r<|Ie w f s x
 lt:=λx y n Q K J S q=>by
  have g:∀{z:cJ},z∈DD d->∃u∈l,Rv w f s u z.1:=λ{z} h=>by have h:=yV.mpr h;rw[pairsOf_toList]at h;exact R.m9 (QS h).1
  obtain⟨p,_,m⟩:=Yp M;obtain⟨u,k,e⟩:=g K;obtain⟨v,i,a⟩:=g J
  (replace q:=(Pj P e)▸q;replace q:=(Pj P a)▸q)
  have c:=(N u k v i).1;revert c q;generalize aQ (r u<r v)=b;intro q c;obtain⟨B,rfl,_,_⟩:=Fv<|cX.mp m u k;obtain⟨C,rfl,_,_⟩:=Fv<|cX.mp m v i;rw[qT]at e a;rw[lt'_eq];refine mM<|Cd ?_;rw[S];refine mM<|wpS_lift<|BU ?_;revert e a;generalize x.1=x1;generalize y.1=y1;intro e a;induction e with|mk U _ _ Y=>
  induction a with|mk T _ _ X=>
  obtain⟨_,I,_,_,d1⟩:=U;obtain⟨_,t,_,_,Z⟩:=T;exact kat_lt (Q:=λb o=>o=s/\wpS (Md w) A E s (bB<|aA b) Q n) I d1 t Z<|aDK P L Y X c ⟨rfl,ft q⟩
theorem aB6{p:V->Bool}{T:aD}(I:∀a x,p a=aB->Rv w f s a x->QL x=bB T)(r:Rl w f s l d)(h:l.all (xF p)=aB):∃c,KatTups s.heap d c/\c.length=d.length/\∀v∈c,QL v=bB T:=by
 induction l generalizing d with
 |nil=>subst r;exact⟨[],trivial,rfl,λP h=>(by contradiction)⟩
 |cons a l z=>
  induction r with|mk k N=>
  rw[Dn,oM]at h;obtain⟨c,L,K,J⟩:=z N h.2;obtain⟨B,rfl,m,i⟩:=Fv h.1;replace k:=qT▸k;induction k with|mk E _ _ g=>
  obtain⟨o,u,t,n,q⟩:=E;induction B using bM with
  |nil=>exact iE m
  |cons b B=>
   induction g with| @mk y D M Q=>
   exact⟨y::c,.cons u t q rfl L,aN EI K,λv A=>(dA.mp A).elim (λe=>e▸I b y (sK.mp i).1 M)<|J v⟩
theorem ic(r:Rl w f s l d)(n:jL l=aB)(t:0<d.length){Q:SortKind->aF->Prop}(q:Q (tuples' aB) s):aL (Md w) A (keyKind' d.toArray) Q E s:=by
 have c:∀{p:V->Bool} {T:aD},(∀a x,p a=aB->Rv w f s a x->QL x=bB T)->(T==T)=aB->(T !=LM "tuple")=aB->l.all (xF p)=aB->aL (Md w) A (keyKind' d.toArray) Q E s:=λo y u h=>by obtain⟨z,k,g,e⟩:=aB6 o r h;exact kat_kind k (g▸t) (λv m=>Looks.of_pure<|e v m) y<|u▸q
 refine(AI.mp n).elim (c (T:= .type "int") (λa x b r=> ?_) (by decide) (by decide)) (c (T:= .type "str") (λa x b r=> ?_) (by decide) (by decide))
 cases a with
 |a5 i=>cases r;rfl
 |_=>exact iE b
 cases a with
 |d9 i=>cases r;rfl
 |_=>exact iE b
theorem aKY(P:Ap f)(Z:A.units+20<dO)(N:s.heap.get? a=aA (jR "list" d.toArray n))(g:aU j s)(ha:j.heap.objs.size<=a)(I:jL l=aB)(hl:d.length<=cF)(R:Rl w f j l d){U:Hm->aF->Prop}
  (h:∀i:Array aD,Rl w f j (nY l) i.toList->U (.done (.ret .none)) {s with heap:=gk s.heap a d i}):aL (Md w) A (Builtin.«list.sort» ⟨[.ref a],[]⟩) U E s:=by
 rw[list_sort_plain];obtain⟨r,M⟩:=Vq I;have al:a<s.heap.objs.size:=iF N;refine aK<|listItems_at N rfl ?_;refine aK<|gn N rfl ?_ (jN hl)<|eO _;obtain⟨e1,J⟩:∃e1,(s.heap.update a<|yZ λm=> #[]).get? a=aA (jR "list" #[] e1):=⟨_,gp N<|λm=> #[]⟩;refine aK<|aSB J rfl ?_;refine aK<|wpAny_newTuple ?_<|jN hl;refine aK<|aSC ?_;refine fV ?_;have z1:(s.heap.update a<|yZ λm=> #[]).objs.size=s.heap.objs.size:=Qz ..;obtain⟨k,S⟩:∃k:aF,k={s with heap:=((s.heap.update a<|yZ λm=> #[]).push<|jR "tuple" d.toArray 0).push<|jR "list" #[] 0}:=⟨_,rfl⟩
 have u:k.heap.get? a=aA (jR "list" #[] e1):=by rw[S];exact fC _<|fC _ J
 have g6:aU j k:=by
  refine aE S ?_;exact⟨λb o hb=>fC _<|fC _<|(Dt _ _<|jQ<|cO (iF hb) ha).trans<|g.i8 b o hb,
   aR g.i9 (by rw[lH,lH,z1];exact dI _ 2),g.os,g.p8⟩
 have K:∀i:Array aD,({k with heap:=k.heap.update a<|yZ λm=>i}:aF)={s with heap:=gk s.heap a d i}:=λm=>by refine aE S ?_;rfl
 show aL (Md w) A _ U E {s with heap:=((s.heap.update a<|yZ λm=> #[]).push<|jR "tuple" d.toArray 0).push<|jR "list" #[] 0}
 refine eJ S ?_;have L:∀xs:AK,xs.toList.Perm (DD d).toList->(xs.toList.Pairwise λx y=>r (Ie w f k x)<=r (Ie w f k y))->U (.done (.ret .none)) {k with heap:=k.heap.update a (yZ λm=>xs.map (·.2))}:=λxs p Y=>by rw[K];refine h _ ?_;rw[Array.toList_map];exact aK8 M R (λv x e rv=>aN r<|Pj P<|e▸g6.kp.rv rv) p Y
 have z:∀xs:AK,xs.toList.Perm (DD d).toList->(xs.map (·.2)).size<=rD+1:=λxs p=>by rw[aSD,←pL,p.length_eq,pL,pairsOf_size];exact uS<|jN hl
 dsimp only;by_cases c:d.toArray.size<2
 ·rw[bO c,bO c];refine aK<|bA ?_;rw[StateT.run_pure];refine aK<|bA<|aK<|aSB u rfl<|aK<|gn u rfl ?_ (eO _)<|z (DD d)<|.refl _;simp only[bne_self_eq_false,Hv,if_false];refine bA<|L (DD d) (.refl _) ?_;have z:=pairsOf_size d;rw[←pL]at z
  (replace c:=Ht▸c;replace c:=(z).symm▸c)
  cases hv:(DD d).toList with
  |nil=>exact .nil
  |cons p t=>
   replace c:=hv▸c;induction t using bM with
   |nil=>exact Dm ..
   |cons q t=>exact aZ c<|eI.mpr<|gZ<|gZ<|eO _
 ·(refine aE (bH c) ?_;refine aE (bH c) ?_)
  have T:=g6.kp.rl R;refine aK<|ic T I (cO Rp<|Dq c) ?_;refine aK<|dP (aEW (X:=Pe A E P (um Z) I M T) (o:=aR3 (tuples' aB) (DD d) #[] 7 aC) (Q:=λm t=>SB (Pe A E P (um Z) I M T) t/\(fL t).toList.Pairwise (Le<|Pe A E P (um Z) I M T)) ⟨.refl _,rfl,rfl⟩ rfl λt a b=>⟨a,b⟩) ?_ λm m e=>e;rintro⟨⟨⟩,t⟩ s' ⟨rfl,b,Y⟩;refine aK<|aSB u rfl<|aK<|gn u rfl ?_ (eO _)<|z _ b.l7;refine aE b.ok ?_;simp only[bne_self_eq_false,Hv,if_false];exact bA<|L _ b.l7 Y
end
end
section
section
variable{w:aW}{g:aH}{f:Th}{s c:aF}{A:bN}{E:aD->aF->Prop}{l e:List V}{d i:List aD}{x y:aD}{u v:V}{a:aM}{n:Nat}{R:V->aH->Prop}
noncomputable abbrev MD(w:aW)(f:Th)(s:aF)(l:List V)(Q:List aD->aF->Prop):Prop:=∀d c e,aU s c->l.Perm e->Rl w f c e d->d.length<=cF->Q d c
theorem nK.l7{r:V->Nat}(h:nK l r)(p:l.Perm e):nK e r:=h.e7 λa=>(p.mem_iff (a:=a)).mpr
theorem Oz(T:A.units+40<dO)(I:aJ w g f s)(J:jL l=aB)(X:∀{Q:List aD->aF->Prop},MD w f s l Q->aL (Md w) A.in1 (Fc y) Q E s)(q:R (.a7 (nY l)) g):aL (Md w) A (fK (.builtin "sorted") [y]) (Nx w f s R) E s:=by
 refine Calls.call_function_entry kind_sorted plain_sorted entry_sorted (args_sorted1 _) ?_;unfold Builtin.«sorted»;refine aK (m:=checkCount "sorted" 1 1 _)<|bA ?_;refine aK<|X λd c e B t D j=> ?_;refine aK<|aSC (hsz:=jN j) ?_;have n:∀p,l.all p=aB->e.all p=aB:=λp h=>cX.mpr λx S=>cX.mp h x<|t.mem_iff.mpr S;have u:jL e=aB:=AI.mpr<|(AI.mp J).imp (n _)<|n _;obtain⟨r,K⟩:=Vq J;rw[Ur K (t.trans (Ga e).symm) (Wc<|K.l7 t)]at q;have Z:=I.l8 B;have Y:=aU.u4 c (jR "list" d.toArray 0) c.toks;have z:=oU c.heap<|jR "list" d.toArray 0;refine aK (fV (nN slot_list_sort ⟨_,z,rfl⟩ entry_list_sort (aKY (A:=A.in1.in1) (s:={c with heap:=c.heap.push<|jR "list" d.toArray 0}) Z.o0 (show A.units+22<dO from um T) z Y (bT _) u j D λa C=>⟨_,rfl,?_⟩) (args_list_sort _)))
 refine bA ⟨_,rfl,?_⟩;have U:a.toList.length<=cF:=C.f7.trans ((Ga e).length_eq.trans D.f7.symm)▸j;obtain⟨P,v⟩:∃P,((c.heap.push<|jR "list" d.toArray 0).update c.heap.objs.size<|yZ λF=> #[]).get? c.heap.objs.size=aA (jR "list" #[] P):=⟨_,gp z<|λF=> #[]⟩;obtain⟨N,k⟩:∃N,(gk (c.heap.push<|jR "list" d.toArray 0) c.heap.objs.size d a).get? c.heap.objs.size=aA (jR "list" a N):=⟨_,gp (fC _<|fC _ v)<|λF=>a⟩;have M:aU c {c with heap:=gk (c.heap.push<|jR "list" d.toArray 0) c.heap.objs.size d a}:=
  ⟨λb o L=>
   have H:=jQ<|iF L
   (Dt _ _ H).trans (fC _<|fC _<|(Dt _ _ H).trans<|fC _ L),dR<|iF k,rfl,rfl⟩
 exact .l8 I (B.j3 M) (vZ▸ .mk (.mk k rfl (by exact aE aUB rfl) rfl) (I.o8 B.i9).n U (M.kp.rl C)) q
end
end
section
section
variable{w:aW}{f:aH}{j:Th}{s g c:aF}{A:bN}{E:aD->aF->Prop}
theorem aKA{d:aM}{e:List fB}{h:Nat}{Q:aD->aF->Prop}(i:(d==aP5)=aI)(a:s.heap.get? d=aA (jB e h))
  (q:Q (.ref s.heap.objs.size) {s with heap:=s.heap.push {cls:= .type "dict_keyiterator",data:= .fields #[.ref d,.int 0 0,.int e.length 0,.int h 0]}}):aL (Md w) A (rE<|.ref d) Q E s:=by
 have b:s.TypeIs (.ref d) "dict":=⟨_,a,rfl⟩;refine aSE b aVT<|nN aVT b F.entry_dict_iter ?_<|F.args_dict_iter_1 _;unfold Builtin.«dict.__iter__»;refine aK ?_;unfold aW3;refine aK<|aQB b<|bA ?_;show aL _ _ (aVU d>>=_) _ _ s;unfold aVU;rw[bH (by rw[i];exact cC)]
 refine aK (bA<|aK<|aw a rfl<|aK<|aQP a rfl ?_);refine aK<|yY<|bA ⟨_,rfl,"dict_keyiterator",_,⟨_,kZ _ rfl,rfl⟩,QA.lookup,?_⟩;exact q
theorem aMK{b d:aM}{i n:Nat}{k:List fB}{e:fB}{Q:Option aD->aF->Prop}(a:s.heap.IsKeyIter b d i k.length n)(l:s.heap.get? d=aA (jB k n))(t:k[i]? =aA e)
  (q:∀r,r.IsKeyIter b d (i+1) k.length n->lT b s.heap r->Q (aA e.key) {s with heap:=r}):aL (Md w) A (jI<|.ref b) Q E s:=by
 obtain⟨o,p,u,m⟩:=id a;unfold jI;refine aK<|BU<|wW (name:=cD "__next__") a.typeIs QA<|nN QA a.typeIs aTW ?_<|aTX _;refine aK<|bA ?_;refine aK ?_;refine aK ?_;refine aK<|cm a.typeIs<|bA ?_;refine aK<|Lm p m ?_;show aL _ _ (if(tJ d==AF)=aB then _ else _) _ _ s;rw[bH (show ¬((tJ d==AF)=aB)from cC)];refine aK<|bA<|aK<|aw l rfl ?_;rw[bH (by rw[Ht,bne_self_eq_false];exact cC)]
 refine aK (bA<|aK<|aQP l rfl ?_);rw[bH (by rw[bne_self_eq_false];exact cC)]
 refine bA ?_;show aL _ _ (match(if(i:Int)<0 then aC else k.toArray[(i:Int).toNat]?)with|some e=>_|none=>_) _ _ s
 rw[bH (EK.mpr<|uT i),Ll,wV,t];refine aK<|aK<|cm a.typeIs<|bA<|aK<|aVV a.typeIs ?_;show aL _ _ (setField (.ref b) 1 (lV<|(i:Int)+1)>>=_) _ _ s;refine aK (BR p m (by simp) ?_)
 have h:(s.heap.update b (Hr (·.setIfInBounds 1 (lV<|(i:Int)+1)))).IsKeyIter b d (i+1) k.length n:=
  ⟨_,wX _ p<|aTR<|cg m _,(aTS ..).trans u,by rw[cg m];rfl⟩
 refine aK (fV (aK (aVV (s:={s with heap:=s.heap.update b (Hr (·.setIfInBounds 1 (lV<|(i:Int)+1)))}) h.typeIs ?_)))
 exact bA (bA ⟨_,rfl,bA<|q _ h<|qA ..⟩)
theorem aFQ{d:aM}{n:List fB}{B:Nat}(D:(d==aP5)=aI):KdlSrc sF w "dict" d d n.length (λi v=>∃e,n[i]? =aA e/\v=e.key) (λh=>h.get? d=aA (jB n B)) where
 type:=λa k=>⟨_,k,rfl⟩
 there:=λa k=>⟨iF k,iF k⟩
 keep:=λa a k u=>u d (.inl rfl) _ k
 notList:=by decide
 notTuple:=by decide
 hint:=λa a s a k x=>kdl_hint_dict (s:=s) ⟨_,k,rfl⟩ x
 iter:=λA s F k=>by
  have q:d≠s.heap.objs.size:=lU<|iF k;refine⟨_,λi h=>h.IsKeyIter s.heap.objs.size d i n.length B/\h.get? d=aA (jB n B),(λa a x=>aKA D k x),?_,⟨⟨_,kZ _ rfl,rfl,rfl⟩,fC _ k⟩⟩;generalize s.heap.objs.size=I at q;refine⟨λb m=>by simp at m;simp[m],λa a a l u=>⟨l.1.at λo e=>u I (by simp) o e,u d (by simp) _ l.2⟩,λi s Q E C l t=> ?_,λs Q E l t=> ?_,λa a a a l t=>aTZ l.1 t⟩
  refine aMK l.1 l.2 (iA C) λz r p=> ?_;exact t _ z s.toks ⟨n[i],iA C,rfl⟩ ⟨r,p.extBut d _ q l.2⟩ λb o m e=>p.extBut b o (λh=>m (by simp[h])) e
  exact SG F l.1 l.2 (bT _) λz y a=>t z s.toks λb o m e=>y b o (λh=>m (by simp[h])) e
end
end
section
section
variable{w:aW}{u:aH}{t:Th}{s j i:aF}{A:bN}{E:aD->aF->Prop}{l:List V}{x:aD}{a v:V}{R:V->aH->Prop}
theorem aKN{T:String}{r d:aM}{n:Nat}{P:Nat->aD->Prop}{I:dW->Prop}{R:List aD->aF->Prop}(D:KdlSrc sF w T r d n P I)(M:A.handled=aC)(m:I s.heap)(K:n<=rD)
  (q:∀(i:aF) (acc:Array aD),aU s i->Ry P acc n->R acc.toList i):aL (Md w) A (Fc<|.ref r) R E s:=by
 have v:=D.there _ m;unfold Fc;refine aK<|gq<|zJ aSF ?_;refine aE (Dw aVW _) ?_;show aL _ A.in1 (QJ []>>=λl=>tM<|.builtin "list.__iadd__" ⟨[l,.ref r],[]⟩) _ _ s;refine aK<|yY<|bA ⟨Dx Rz _,zJ aSG ?_⟩;refine aE (Dw Rz _) ?_;have k:=oU s.heap {cls:= .type "list",data:= .seq #[]};show aL _ A.in1 (EL (.ref s.heap.objs.size) (.ref r)<|.ref s.heap.objs.size) _ _ _;have B:=kdl_extend (A:=A) (s:={s with heap:=s.heap.push {cls:= .type "list",data:= .seq ([]:List aD).toArray}})
  (R:=λ(p:pJ) (j:aF)=>∃(a:Array aD) (z:Nat),p= .ok (.ret (.ref s.heap.objs.size))/\aU s j/\j.heap.get? s.heap.objs.size=aA {cls:= .type "list",dict:=aC,data:= .seq a z,slots:= #[]}/\Ry P a n)
  D M (D.keep _ _ m λb S o e=>fC _ e) s.heap.objs.size (jQ v.1) (jQ v.2) (.ref s.heap.objs.size) 0 k
  (λU Q a z L h c=>⟨a,z,rfl,⟨λb o e=>L b o (lU<|iF e)<|fC _ e,dR<|iF h,rfl,rfl⟩,h,c⟩) K
 refine dP B (λC j x=> ?_) λe j x=> ?_
 ·induction C with
  |done f=>
   obtain⟨a,z,e,g,h,c⟩:=x
   (injection e with J;subst J)
   show aL _ A (load s.heap.objs.size>>=_) _ _ _;exact aK<|Lq h<|bA<|q _ a g c
  |again H=>refine⟨x.1,RA x.2 λp F y=> ?_⟩;obtain⟨a,z,rfl,g,h,c⟩:=y;show aL _ A (load s.heap.objs.size>>=_) _ _ _;exact aK<|Lq h<|bA<|q _ a g c
 ·obtain⟨_,_,N,_⟩:=x;injection N
theorem aHC(h:yJ w t s l x){Q:List aD->aF->Prop}(q:MD w t s l Q):aL (Md w) A (Fc x) Q E s:=by
 induction h with| @mk c d y v C=>
 obtain⟨T,⟨o,D,g⟩,F⟩:=Vc y;unfold Fc;refine aK<|gq<|zJ aSF ?_;show aL _ _ (QJ []>>=λl=>tM<|.builtin "list.__iadd__" ⟨[l,.ref c],[]⟩) _ _ s;refine aK<|aSC<|bA ⟨Dx Rz _,zJ aSG ?_⟩;show aL _ _ (EL (.ref s.heap.objs.size) (.ref c)<|.ref s.heap.objs.size) _ _ {s with heap:=s.heap.push<|jR "list" #[] 0}
 have e:=aU.u4 s (jR "list" #[] 0) s.toks;have f:=oU s.heap<|jR "list" #[] 0;have k:(s.heap.push<|jR "list" #[] 0).IsList c d.toArray\/(s.heap.push<|jR "list" #[] 0).IsTuple c d.toArray:=y.imp (λp=>p.elim λo r=>r.elim λa b=>⟨o,e.i8 _ _ a,b⟩) λm=>m.elim λo n=>n.elim λa b=>⟨o,e.i8 _ _ a,b⟩;unfold EL;refine aK<|AD (T:=T) ⟨o,e.i8 _ _ D,g⟩ ?_;have H:((#[]:Array aD)++d.toArray).size=d.length:=(Qu ..).trans<|jH _;refine aE (bO (by rcases F with rfl|rfl;exact AI.mpr<|.inl (AI.mpr<|.inr rfl);exact AI.mpr<|.inr rfl)) ?_
 refine aK (Mm (s:={s with heap:=s.heap.push<|jR "list" #[] 0}) k (aK<|listItems_at f rfl ?_))
 refine aE (bH (by exact cC)) ?_
 refine aK (gn f rfl ?_ (eO _) (show((#[]:Array aD)++d.toArray).size<=_ from H▸uS (jN v)));refine bA ?_;show aL (Md w) A (load s.heap.objs.size>>=_) Q E {s with heap:=(s.heap.push<|jR "list" #[] 0).update s.heap.objs.size (yZ (· ++d.toArray))}
 refine aK (Lq (gp f _) ?_);show aL _ _ (bB ((#[]:Array aD)++d.toArray).toList) Q E _;refine aE xC ?_;have B:aU s {s with heap:=(s.heap.push<|jR "list" #[] 0).update s.heap.objs.size (yZ (· ++d.toArray))}:=
  ⟨λb o z=>(Dt _ _<|jQ<|iF z).trans<|e.i8 _ _ z,by rw[Qz];exact e.i9,rfl,rfl⟩
 exact bA (q _ _ _ B (.refl _) (B.kp.rl C) v)
end
end
section
variable{w:aW}{f:aH}{b:Th}{s:aF}{A:bN}{E:aD->aF->Prop}{x:aD}{a v:V}{R:V->aH->Prop}{l:List V}
theorem NW(h:rY l=aA v):jL l=aB/\v= .a7 (nY l):=by
 unfold rY gI at h;cases e:jL l with
 |true=>rw[e]at h;exact⟨rfl,(aV h).symm⟩
 |false=>rw[e]at h;exact nn h
theorem Sq(a:A.units+40<dO)(I:aJ w f b s){u:V}(r:Rw w b s u x)(h:(nJ u).bind rY=aA v)(q:R v f):aL (Md w) A (fK (.builtin "sorted") [x]) (Nx w b s R) E s:=by obtain⟨l,g,d⟩:=ob h;obtain⟨c,e⟩:=NW d;exact Oz a I c (aHC<|Iz r g)<|e▸q
theorem aM8(J:A.handled=aC)(t:A.units+300<dO)(I:aJ w f b s)(D:Rv w b s a x)(h:iX 1 a f=aA v)(q:R v f):aL (Md w) A (fK (.builtin "sorted") [x]) (Nx w b s R) E s:=by
 obtain⟨u,o,j⟩:=ob h;have r:=lE I D o;cases u with
 |b7 l=>
  change(match l.all _ with|true=>rY (l.map (·.1))|false=>aC)=aA v at j
  cases B:l.all λp=>gP p.1 with
  |false=>rw[B]at j;exact nn j
  |true=>
   rw[B]at j;obtain⟨F,e⟩:=NW j;induction r with| @mk c N d M=>
   obtain⟨n,g⟩:=d.g;refine Oz (um t) I F (λ{Q} q=> ?_)<|e▸q;have z:=d.hs.f7;refine aKN (aFQ<|wH d.h3) J g (jN d.hl) λm acc C k=> ?_;have y:acc.toList.length=(l.map (·.1)).length:=by rw[pL,k.1,z,bP]
   refine q _ m _ C (.refl _) (C.kp.rl<|F2.of y λi v x o j=> ?_) (by rw[y,bP,←z];exact d.hl)
   rw[jW]at o;obtain⟨p,H,e⟩:=om o;rw[mZ]at j;obtain⟨P,K,L⟩:=k.2 i x j;rw[←e,L];exact(d.hs.p7 H K).k
 |a8 l=>exact Sq (um t) I r j q
 |a7 l=>exact Sq (um t) I r j q
 |_=>exact nn j
end
section
noncomputable def lG(xs:Array Nat):Prop:=∀a b,a<b->b<xs.size->xs.getD a 0<xs.getD b 0
structure gU(xs:Array Nat)(j r:Nat):Prop where
 le:r<=xs.size
 lo:∀i,i<r->xs.getD i 0<j
 hi:∀i,r<=i->i<xs.size->j<=xs.getD i 0
section
variable{xs:Array Nat}{i j r o l d:Nat}
theorem Fw(h:i<xs.size):xs.getD i d=xs[i]:=dif_pos h
theorem aHB(h:i<xs.size):xs.getD i d=xs.getD i 0:=(Fw h).trans (Fw h).symm
theorem Eu(h:xs[i]? =aA j):i<xs.size/\xs.getD i 0=j:=
 (Cc.mp h).elim λl e=>
 ⟨l,(Fw l).trans e⟩
theorem vu(h:o<l):(o+l)/2<l:=aVK (by rw[Nat.two_mul];exact aR9 h l)
theorem aBE(h:o<=l):o<=(o+l)/2:=(aVL Rp).mpr (by rw[Nat.mul_two];exact fG h o)
theorem lG.le(a:lG xs)(h:i<=j)(b:j<xs.size):xs.getD i 0<=xs.getD j 0:=(HC h).elim (λh=>dR<|a i j h b) λh=>bW<|h▸rfl
theorem aE6(s:lG xs)(d:Nat):∀{o l},o<=l->l<=xs.size->l-o<=d->(∀i,i<o->xs.getD i 0<j)->(∀i,l<=i->i<xs.size->j<=xs.getD i 0)->gU xs j (aSH xs j d o l):=by
 induction d with
 |zero=>intro o l k e f a b;rw[←qC k (Rm<|dz.mp f)]at e b;exact⟨e,a,b⟩
 |succ n r=>intro o l k e f a b;show gU xs j (if o<l then(if xs.getD ((o+l)/2) j<j then aSH xs j n ((o+l)/2+1) l else aSH xs j n o ((o+l)/2))else o);by_cases h:o<l;have q:=vu h;have p:=aBE k;have m:=cO q e;rw[bO h,aHB m];by_cases c:xs.getD ((o+l)/2) 0<j;rw[bO c];exact r q e (aR (Rj (gZ p) l)<|aRX f) (λi l=>fZ (s.le (gW l) m) c) b;rw[bH c];exact r p (dR m) (gW<|cO (aVM p q) f) a λi u t=>aR (Dq c)<|s.le u t;rw[bH h];rw[←qC k (Dq h)]at e b;exact⟨e,a,b⟩
theorem Kc(c:lG xs)(j:Nat):gU xs j (xD xs j):=
 aE6 c xs.size (eO _) (bT _) (bT _) (λi h=>aZ h<|uP i) λi a b=>aZ b<|eI.mpr a
theorem gU.v9(c:gU xs j r)(e:gU xs j i):r=i:=by
 rcases gi r i with h|h|h
 exact aZ (e.lo r h) (eI.mpr<|c.hi r (bT _)<|cO h e.le);exact h;exact aZ (c.lo i h)<|eI.mpr<|e.hi i (bT _)<|cO h c.le
theorem OR(c:lG xs)(h:xs[i]? =aA j):xD xs j=i:=by obtain⟨l,e⟩:=Eu h;subst e;exact(Kc c _).v9 ⟨dR l,λk d=>c k i d l,λk a b=>c.le a b⟩
theorem aO4(c:lG xs)(h:xs[i]? =aA j):xD xs (j+1)=i+1:=by obtain⟨l,e⟩:=Eu h;subst e;exact(Kc c _).v9 ⟨l,λk d=>BX<|c.le (gW d) l,λk a b=>c i k a b⟩
theorem aF1(b:lG xs):xD xs 0=0:=(Kc b 0).v9 ⟨eO _,λk h=>aZ h<|uP _,λk a a=>eO _⟩
end
noncomputable def sD(a:Array Nat)(j:Nat):Prop:=∃i:Nat,a[i]? =aA j
section
variable{t:iV}{i j:Nat}
theorem wj(a:lG t.place)(h:t.place[i]? =aA j):t.slot j= .live i:=by show(if(t.place[xD t.place j]? ==aA j)=aB then aW4 (xD t.place j)else _)=_;rw[OR a h,h,bO<|beq_iff_eq.mpr rfl]
theorem Te(a:t.dummies= #[])(h:¬sD t.place j):t.slot j= .empty:=by show(if(t.place[xD t.place j]? ==aA j)=aB then _ else if aVX t.dummies j=aB then _ else _)=_;rw[bH λc=>h ⟨_,beq_iff_eq.mp c⟩,a];exact bH (by show ¬((aC==aA j)=aB);exactλc=>(by contradiction))
noncomputable def Aw(g:Nat)(p:AJ):AJ:=
 if p.more>0 then{p with j:=p.j+1,more:=p.more-1}else
 {p with j:=(LN g p.i p.perturb).1,more:=qF g (LN g p.i p.perturb).1-(LN g p.i p.perturb).1,i:=(LN g p.i p.perturb).1,perturb:=(LN g p.i p.perturb).2}
noncomputable def De(g:Nat)(q:Nat×Nat):AJ:={j:=q.1,more:=qF g q.1-q.1,i:=q.1,perturb:=q.2,dummy:=aC}
noncomputable def q0(g:Nat)(h:Int):Nat×Nat:=(gr h % (g+1),gr h)
def W(g:Nat)(h:Int):Nat->AJ
 |0=>De g<|q0 g h
 |n+1=>Aw g<|W g h n
noncomputable def FS(g:Nat)(q:Nat×Nat):Nat×Nat:=LN g q.1 q.2
def iN(g:Nat)(h:Int):Nat->Nat×Nat
 |0=>q0 g h
 |n+1=>FS g<|iN g h n
variable{g m n k:Nat}{h:Int}{q:Nat×Nat}
theorem aGU(g:Nat)(p:AJ):(Aw g p).dummy=p.dummy:=by unfold Aw;exact(apply_ite aW5 ..).trans<|ite_self _
theorem aF3(n:Nat):(W g h n).dummy=aC:=by
 induction n with
 |zero=>rfl
 |succ n a=>exact(aGU ..).trans a
theorem OF(e:W g h k=De g q):∀i,i<=qF g q.1-q.1->W g h (k+i)={De g q with j:=q.1+i,more:=qF g q.1-q.1-i}:=by
 intro i;induction i with
 |zero=>exactλb=>e
 |succ i a=>intro l;show Aw g (W g h<|k+i)=_;rw[a (dR l)];exact bO<|BP l
theorem XY(e:W g h k=De g q):W g h (k+(qF g q.1-q.1)+1)=De g (FS g q):=by show Aw g (W g h<|k+(qF g q.1-q.1))=_;rw[OF e _ (bT _),yT];exact bH<|rH 0
theorem aIS(g i:Nat):qF g i-i<=9:=by unfold qF;by_cases c:i+9<=g;rw[bO c,wY];exact bT 9;rw[bH c,yT];exact eO 9
theorem aG5(n:Nat):∃k,k<=10*n/\W g h k=De g (iN g h n):=by
 induction n with
 |zero=>exact⟨0,bT _,rfl⟩
 |succ n a=>obtain⟨k,c,b⟩:=a;exact⟨_,iR c<|gZ<|aIS g (iN g h n).1,XY b⟩
theorem YX:(q0 g h).1<=g:=gW<|QX _<|gM g
theorem RZ:(FS g q).1<=g:=gW<|QX _<|gM g
theorem Yz(n:Nat):(iN g h n).1<=g:=by
 induction n using fO with
 |zero=>exact YX
 |succ n=>exact RZ
theorem Pi{i:Nat}(h:i<=g):i<=qF g i/\qF g i<=g:=by unfold qF;by_cases c:i+9<=g;rw[bO c];exact⟨dI ..,c⟩;rw[bH c];exact⟨bT _,h⟩
theorem aII(n:Nat):(iN g h n).2=gr h/32^n:=by
 induction n with
 |zero=>exact(Nat.div_one _).symm
 |succ n a=>show(iN g h n).2/32=_;rw[a,Nat.div_div_eq_div_mul,aUZ]
theorem aPC(h:Int):gr h<2^64:=(Int.toNat_lt (Int.emod_nonneg h (by decide))).mpr (Int.emod_lt_of_pos h (by decide))
end
noncomputable def UJ(g i:Nat):Nat:=(i*5+1) % (g+1)
def zS(g:Nat):Nat->Nat->Nat
 |0,i=>i
 |n+1,i=>UJ g<|zS g n i
noncomputable def sY(g:Nat):Bool:=bZ g 7||Nat.beq g 31||Nat.beq g 127||Nat.beq g 511
def GM(g:Nat):Bool:=bZ (zS g (g+1) 0) 0&&(eW<|g+1).all λx=>((eW<|g+1).map λk=>zS g k 0).any<|bZ x
theorem ll:GM 7=aB:=by rfl'
theorem wx:GM 31=aB:=by rfl'
theorem ld:GM 127=aB:=by rfl'
theorem aAY:GM 511=aB:=by rfl'
theorem HN{P:Nat->Prop}{g:Nat}(h:sY g=aB)(d:P 7)(c:P 31)(b:P 127)(a:P 511):P g:=by
 rcases AI.mp h with h|h
 rcases AI.mp h with h|h
 rcases AI.mp h with h|h
 exact iQ h▸d;exact iQ h▸c;exact iQ h▸b;exact iQ h▸a
section
variable{g m n i x:Nat}{h:Int}
theorem Mx(m n i:Nat):zS g (m+n) i=zS g n (zS g m i):=by
 induction n with
 |zero=>rfl
 |succ n a=>exact aN (UJ g) a
theorem rg(p:sY g=aB)(l:i<=g)(n:x<=g):∃k,k<=g/\zS g k i=x:=by
 have⟨z,w⟩:=sK.mp<|HN (P:=λm=>GM m=aB) p ll wx ld aAY;have d:∀y,y<=g->∃k,k<=g/\zS g k 0=y:=λy j=>by obtain⟨z,h,e⟩:=Ho.mp<|cX.mp w y<|qD.mpr<|BX j;obtain⟨k,q,s⟩:=gJ.mp h;exact⟨k,gW<|qD.mp q,s.trans (iQ e).symm⟩
 obtain⟨a,f,rfl⟩:=d i l;obtain⟨b,r,rfl⟩:=d x n;rcases Dk b a with c|c
 refine⟨g+1-a+b,gW<|uX (rF c _)<|LL<|uS f,?_⟩;rw[←Mx,←kX,oL<|uS f,Mx,iQ z];exact⟨b-a,aR (pI ..) r,by rw[←Mx,oL c]⟩
theorem aIW(n:Nat):iN g h (13+n)=(zS g n (iN g h 13).1,0):=by
 induction n with
 |zero=>exact Qi rfl ((aII 13).trans (Nat.div_eq_of_lt (cO (aPC h) (by decide))))
 |succ n a=>refine(aN (FS g) a).trans ?_;show((_*5+1+0/32) % _,0/32)=_;rw[Nat.zero_div];rfl
theorem SQ(b:sY g=aB)(h:Int)(a:x<=g):∃n,n<Fd g/\(iN g h n).1=x:=by obtain⟨k,d,c⟩:=rg b (Yz (h:=h) 13) a;exact⟨13+k,by rw[kY];exact aVS d (by decide),by rw[aIW];exact c⟩
theorem aM2(b:sY g=aB)(h:Int)(a:x<=g):∃N,N<10*Fd g/\(W g h N).j=x:=by obtain⟨n,f,e⟩:=SQ b h a;obtain⟨k,d,c⟩:=aG5 (g:=g) (h:=h) n;exact⟨k,fZ d (Nat.mul_lt_mul_of_pos_left f (by decide)),c▸e⟩
noncomputable def pE(g:Nat)(T:Nat->Prop)(h:Int)(j:Nat):Prop:=∃n,(W g h n).j=j/\∀m,m<n->T (W g h m).j
theorem pE.j4{T d:Nat->Prop}{j:Nat}(w:pE g T h j)(f:∀j,T j->d j):pE g d h j:=
 w.elim λn c=>c.elim λa b=>
 ⟨n,a,λm e=>f _<|b m e⟩
theorem ri(n:Nat):(W g h n).j<=g:=by
 have:(W g h n).i<=g/\(W g h n).j+(W g h n).more<=g:=by
  have a:∀{q:Nat×Nat},q.1<=g->q.1<=g/\q.1+(qF g q.1-q.1)<=g:=λb=>⟨b,by rw[oL (Pi b).1];exact(Pi b).2⟩
  induction n with
  |zero=>exact a YX
  |succ n d=>
   show(Aw g<|W g h n).i<=g/\(Aw g<|W g h n).j+(Aw g<|W g h n).more<=g;unfold Aw;by_cases c:(W g h n).more>0;rw[bO c];exact⟨d.1,by rw[kX,oL c];exact d.2⟩
   rw[bH c];exact a (q:=FS g ((W g h n).i,(W g h n).perturb)) RZ
 exact aR (dI ..) this.2
theorem aDY{P:Nat->Prop}:∀{n:Nat},¬P n->∃k,k<=n/\¬P k/\∀m,m<k->P m:=by
 intro n;induction n using aUS with
 |_ n e=>intro h;by_cases c:∀m,m<n->P m;exact⟨n,bT n,h,c⟩;obtain⟨m,f⟩:=Classical.not_forall.mp c;obtain⟨d,i⟩:=Classical.not_imp.mp f;obtain⟨k,a,b⟩:=e m d i;exact⟨k,aR a<|dR d,b⟩
end
end
section
section
variable{n:Type}{xs:Array n}{p i q:Nat}{x:n}
theorem Ij(xs:Array n)(p:Nat)(x:n):(rJ xs p x).toList=xs.toList.take p++x::xs.toList.drop p:=by
 have e:(xs.toList.drop p).take (xs.size-p)=xs.toList.drop p:=KZ (by rw[Hp,pL];exact bT _)
 show((xs.extract 0 p).push x++xs.extract p xs.size).toList=_;rw[xC,Rt,gf,gf,gg,gg,List.drop_zero,Nat.sub_zero,dK,e];rfl
theorem YM(xs:Array n)(p:Nat)(x:n):(rJ xs p x).toList.Perm (x::xs.toList):=by rw[Ij];exact List.perm_middle.trans (by rw[EG])
theorem NK:(rJ xs p x).size=xs.size+1:=(YM xs p x).length_eq
theorem Eg(h:i<p)(a:p<=xs.size):(rJ xs p x)[i]? =xs[i]? :=by rw[←mZ,Ij,rC (by rw[gh a];exact h),aVO h,mZ]
theorem Fp(a:p<=xs.size):(rJ xs p x)[p]? =aA x:=by have e:(xs.toList.take p).length=p:=gh a;rw[←mZ,Ij,uR<|bW e,e,yT];rfl
theorem BF(h:p<=q)(a:p<=xs.size):(rJ xs p x)[q+1]? =xs[q]? :=by have e:(xs.toList.take p).length=p:=gh a;rw[←mZ,Ij,uR<|e.symm▸uS h,e,aR0 h,List.getElem?_cons_succ,QD,oL h,mZ]
end
section
variable{l:Nat}{d:Array Nat}{o:Array (Int×aD)}{i j k x a b y:Nat}
theorem lG.p7(c:lG d)(h:a<b)(f:d[a]? =aA x)(e:d[b]? =aA y):x<y:=by obtain⟨_,j⟩:=Eu f;obtain⟨g,i⟩:=Eu e;exact j▸i▸c a b h g
theorem YS(h:∀a b x y:Nat,a<b->d[a]? =aA x->d[b]? =aA y->x<y):lG d:=λa b c e=>by have f:=Hy c e;rw[Fw f,Fw e];exact h a b _ _ c (lJ f)<|lJ e
structure eZ(l:Nat)(d:Array Nat)(o:Array (Int×aD)):Prop where
 A6:lG d
 O6:∀i j:Nat,d[i]? =aA j->j<=l
 i9:d.size=o.size
 H8:sY l=aB
 L9:∀(i:Nat) (e:Int×aD) (j:Nat),o[i]? =aA e->d[i]? =aA j->pE l (sD d) e.1 j
theorem eZ.w3(T:eZ l d o){h:Int}{v:aD}(B:j<=l)(D:¬sD d j)(A:pE l (sD d) h j):
  eZ l (rJ d (xD d j) j) (rJ o (xD d j) (h,v)):=by
 have c:=Kc T.A6 j;generalize xD d j=p at c;have z:∀{a x:Nat},a<p->d[a]? =aA x->x<j:=λh e=>(Eu e).2▸c.lo _ h;have C:∀{a x:Nat},p<=a->d[a]? =aA x->j<x:=λ{a x} h e=>
  (Eu e).casesOn λF E=>
  sL (E▸c.hi _ h F) λf=>D ⟨a,f▸e⟩
 have u:∀k,sD d k->sD (rJ d p j) k:=λk ⟨i,e⟩=>by
  rcases Dk i p with g|g
  exact⟨i,(Eg g c.le).trans e⟩;exact⟨i+1,(BF g c.le).trans e⟩
 refine⟨YS λa b x y m r q=> ?_,λi k e=> ?_,by rw[NK,NK,T.i9],T.H8,λi e k t s=> ?_⟩
 ·rcases Cx p a with g|g|⟨a,rfl,g⟩
  rw[Eg g c.le]at r;rcases Cx p b with f|f|⟨b,rfl,f⟩
  rw[Eg f c.le]at q;exact T.A6.p7 m r q;rw[f,Fp c.le]at q;exact aV q▸z g r;rw[BF f c.le]at q;exact T.A6.p7 (cO g f) r q;rw[g,Fp c.le]at r;obtain⟨b,rfl⟩:=Fb<|jQ<|fZ (eO a) m;have f:=gW m;rw[BF (g▸f) c.le]at q;exact aV r▸C (g▸f) q;rw[BF g c.le]at r;obtain⟨b,rfl⟩:=Fb<|jQ<|fZ (eO _) m;have f:=gj m;rw[BF (aR g<|dR f) c.le]at q;exact T.A6.p7 f r q
 ·rcases Cx p i with g|g|⟨i,rfl,g⟩
  rw[Eg g c.le]at e;exact T.O6 _ _ e;rw[g,Fp c.le]at e;exact aV e▸B;rw[BF g c.le]at e;exact T.O6 _ _ e
 ·have w:p<=o.size:=T.i9▸c.le;rcases Cx p i with g|g|⟨i,rfl,g⟩
  rw[Eg g c.le]at s;rw[Eg g w]at t;exact(T.L9 _ _ _ t s).j4 u;rw[g,Fp c.le]at s;rw[g,Fp w]at t;rw[←aV t,←aV s];exact A.j4 u;rw[BF g c.le]at s;rw[BF g w]at t;exact(T.L9 _ _ _ t s).j4 u
theorem aCC:eZ 7 #[] #[]:=⟨λa a a h=>aZ h<|uP _,λa a h=>nn h,rfl,rfl,λa a a h=>nn h⟩
end
end
section
noncomputable abbrev Ow:=Array<|Option Nat
noncomputable def vH(p:Ow)(j:Nat):Prop:=∃k:Nat,p[j]? =aA (aA k)
section
variable{d j k n b t u x:Nat}{p:Ow}{h:Int}{s:List Int}
theorem WN(a:j<p.size):(p.getD j<|aA 0).isNone=aB/\p[j]? =aA aC\/(p.getD j<|aA 0).isNone=aI/\vH p j:=by
 have e:p.getD j (aA 0)=p[j]:=dif_pos a;have g:=lJ a;unfold vH;rw[e,g];cases p[j]with
 |none=>exact .inl ⟨rfl,rfl⟩
 |some k=>exact .inr ⟨rfl,k,rfl⟩
theorem aOH(E:p.size=d+1)(H:¬vH p (iN d h n).1):∀{b u},W d h u=De d (iN d h b)->(∀m,m<u->vH p (W d h m).j)->b<=n->n<b+t->
  ∃j,gu d p t (iN d h b).1 (iN d h b).2=aA j/\p[j]? =aA aC/\pE d (vH p) h j:=by
 induction t with
 |zero=>exactλB B y x=>aZ x<|eI.mpr y
 |succ t D=>
  intro b u e J y x;have F:=Yz (g:=d) (h:=h) b;have r:=Pi F;have P:qF d (iN d h b).1+1-(iN d h b).1=qF d (iN d h b).1-(iN d h b).1+1:=aR0 r.1;have a:∀{i},i<qF d (iN d h b).1-(iN d h b).1+1->(iN d h b).1+i<p.size:=λv=>E▸BX (aR (fG (gW v) _)<|aR (bW<|oL r.1) r.2);have o:∀{c},c<=qF d (iN d h b).1-(iN d h b).1+1->(∀i,i<c->(!(p.getD ((iN d h b).1+i)<|aA 0).isNone)=aB)->∀m,m<u+c->vH p (W d h m).j:=λ{c} K f m I=>by
   rcases Dk m u with g|g
   exact J m g;obtain⟨i,rfl⟩:=Ly g;have v:=QZ I;have l:=cO v K;rw[OF e i (gW l)];exact(WN<|a l).elim (λq=>aZ (f i v) (by rw[q.1];exact cC)) (·.2)
  show ∃j,(match(eW<|qF d (iN d h b).1+1-(iN d h b).1).find? λk=>(p.getD ((iN d h b).1+k)<|aA 0).isNone with
   |some k=>aA<|(iN d h b).1+k
   |none=>gu d p t (iN d h<|b+1).1 (iN d h<|b+1).2)=aA j/\_
  rw[P];cases z:(eW<|qF d (iN d h b).1-(iN d h b).1+1).find? λk=>(p.getD ((iN d h b).1+k)<|aA 0).isNone with
  |some k=>obtain⟨N,M,L⟩:=List.find?_range_eq_some.mp z;have w:=qD.mp M;exact⟨_,rfl,((WN<|a w).resolve_right λq=>cC<|q.1.symm.trans N).2,u+k,by rw[OF e k (gW w)],o (dR w) L⟩
  |none=>
   have f:=List.find?_range_eq_none.mp z;have A:=o (bT _) f;have C:b≠n:=λQ=>by subst Q;refine H ?_;have:=A u<|QC<|gM _;rw[e]at this;exact this
   exact D (XY e) A (sL y C) (by rw[KM];exact x)
structure jF(d:Nat)(s:List Int)(p:Ow):Prop where
 i9:p.size=d+1
 s7:∀j k:Nat,p[j]? =aA (aA k)->∃h,s[k]? =aA h/\pE d (vH p) h j
 l7:(p.toList.filterMap id).Perm (eW s.length)
theorem jF.y9(L:jF d s p)(i:sY d=aB)(q:s.length<=d)(h:Int):∃j,gu d p (Fd d) (q0 d h).1 (q0 d h).2=aA j/\p[j]? =aA aC/\pE d (vH p) h j:=by
 have:∃x,p[x]? =aA aC:=fc λc=>by
  have e:=L.l7.length_eq;rw[List.length_filterMap_eq_countP,List.countP_eq_length.mpr λa r=> ?_,pK,pL,L.i9]at e;exact aZ q<|Rs<|uX (jY d) e;induction a using jP with
  |some k=>rfl
  |none=>obtain⟨x,f⟩:=wT.mp r;exact aZ ⟨x,mZ▸f⟩ c
 obtain⟨x,f⟩:=this;have g:x<=d:=gW<|uX (Cc.mp f).1 L.i9;obtain⟨n,w,v⟩:=SQ i h g;exact aOH L.i9 (n:=n) (λl=>l.elim λk o=>by rw[v,f]at o;exact nn<|aV o) (b:=0) (u:=0) rfl (λm i=>aZ i<|uP m) (eO n) ((jH _).symm▸w)
theorem yx{l:List (Option Nat)}(e:l[j]? =aA aC):((l.set j<|aA k).filterMap id).Perm (k::l.filterMap id):=by
 induction l generalizing j with
 |nil=>exact nn e
 |cons a l b=>
  induction j using fO with
  |zero=>obtain rfl:=aV e;exact .refl _
  |succ j=>
   induction a using jP with
   |none=>exact b e
   |some a=>exact((b e).cons a).trans<|.swap ..
theorem jF.j5(L:jF d s p)(f:p[j]? =aA aC)(g:pE d (vH p) h j):jF d (s++[h]) (p.setIfInBounds j<|aA s.length):=by
 have l:=(Cc.mp f).1;have a:∀i,vH p i->vH (p.setIfInBounds j<|aA s.length) i:=λi ⟨k,c⟩=>⟨k,by rw[aVY λe=>by rw[←e,f]at c;exact nn<|aV c];exact c⟩
 refine⟨by rw[Array.size_setIfInBounds,L.i9],λi k b=> ?_,?_⟩
 by_cases q:j=i
 rw[←q,Array.getElem?_setIfInBounds_self_of_lt l]at b;rw[←q,←aV (aV b)];exact⟨h,by rw[uR (bT _),yT];rfl,g.j4 a⟩
 rw[aVY q]at b;obtain⟨m,e,w⟩:=L.s7 i k b;exact⟨m,(rC (iU.mp e).1).trans e,w.j4 a⟩;rw[aR7,cM];show List.Perm _ (eW<|s.length+1);rw[List.range_succ];exact((yx<|mZ.trans f).trans<|L.l7.cons _).trans (aVZ ..).symm
def Pz(d:Nat)(acc:Option (Ow×Nat))(h:Int):Option (Ow×Nat):=
 acc.bind λa=>(gu d a.1 (Fd d) (q0 d h).1 (q0 d h).2).bind λj=>aA (a.1.setIfInBounds j<|aA a.2,a.2+1)
theorem aLK(d:Nat)(s:Array Int):aSI d s=(s.foldl (Pz d)<|aA (aV0 (d+1) aC,0)).map (·.1):=rfl
theorem ql(m:sY d=aB):∀(a s:List Int) (p:Ow),jF d s p->s.length+a.length<=d->∃b n,a.foldl (Pz d) (aA (p,s.length))=aA (b,n)/\jF d (s++a) b:=by
 intro a;induction a with
 |nil=>exactλs p L r=>⟨p,_,rfl,by rw[fS];exact L⟩
 |cons h a k=>
  intro s p L c;obtain⟨j,e,q,l⟩:=L.y9 m (aR (dI ..) c) h;have f:(s++[h]).length=s.length+1:=cM;obtain⟨o,n,g,i⟩:=k (s++[h]) _ (L.j5 q l) (by rw[f,KM];exact c)
  refine⟨o,n,?_,by rw[dK]at i;exact i⟩
  rw[f]at g;rw[List.foldl_cons,show Pz d (aA (p,s.length)) h=aA (p.setIfInBounds j<|aA s.length,s.length+1)from aN (Option.bind · λj=>aA (p.setIfInBounds j<|aA s.length,s.length+1)) e];exact g
theorem tn(d:Nat):jF d [] (aV0 (d+1) aC) where
 i9:=Array.size_replicate
 s7:=λj k h=>by obtain⟨a,e⟩:=Cc.mp h;rw[Array.getElem_replicate]at e;exact nn e
 l7:=by rw[Array.toList_replicate,List.filterMap_replicate_of_none rfl];exact .refl _
theorem aOB(a:sY d=aB)(s:Array Int)(b:s.size<=d):∃p,aSI d s=aA p/\jF d s.toList p:=by
 obtain⟨o,n,e,L⟩:=ql a s.toList [] _ (tn d) (by rw[aPV,jH];exact b)
 refine⟨o,?_,L⟩;rw[aLK,←Array.foldl_toList];exact aN (hV (·.1)) e
end
end
section
noncomputable def Af(c:Nat)(p:Ow):List (Nat×Nat):=(eW<|c+1).filterMap λj=>(p.getD j aC).map (j,·)
theorem SO{b:Type}(a:Array b)(d:b):(eW a.size).map (λj=>a.getD j d)=a.toList:=by
 refine aRV (by rw[bP,pK,pL]) λi f e=> ?_
 rw[Rc,QY,Array.getElem_toList];exact dif_pos _
theorem NP{b d:Type}{f g:b->Option d}{l:List b}(h:∀a∈l,f a=g a):l.filterMap f=l.filterMap g:=by
 induction l with
 |nil=>rfl
 |cons a l e=>rw[LC,LC,h a<|.head _,e λa i=>h a<|.tail _ i]
noncomputable def LZ(c a d:Nat)(e b:Bool)(P:List (Nat×Nat)):iV:=⟨c,(P.map (·.1)).toArray, #[],a,e,d,b⟩
theorem aKW(c a d:Nat)(e b:Bool)(f:Array Int):aV1 c a d e b f=(aSI c f).bind λo=>aA (LZ c a d e b<|Af c o,((Af c o).map (·.2)).toArray):=rfl
section
variable{c j k n i:Nat}{p:Ow}{s:Array (Int×aD)}{q:Nat×Nat}
theorem kq(f:p.size=c+1):q∈Af c p↔p[q.1]? =aA (aA q.2):=by refine aUW.trans ⟨λb=>b.elim λj d=>d.elim λa e=> ?_,λe=> ?_⟩;obtain⟨k,g,rfl⟩:=EF.mp e;have a:=uX (qD.mp a) f.symm;exact(lJ a).trans<|aN aA<|(dif_pos a).symm.trans g;obtain⟨a,e⟩:=Cc.mp e;exact⟨q.1,qD.mpr<|uX a f,EF.mpr ⟨q.2,(dif_pos a).trans e,rfl⟩⟩
theorem aM7(a:p.size=c+1):(Af c p).map (·.2)=p.toList.filterMap id:=by rw[←SO p aC,Lg,a];refine(List.map_filterMap ..).trans<|NP λj b=> ?_;show((p.getD j aC).map (j,·)).map (·.2)=p.getD j aC;rw[Option.map_map];exact Option.map_id' ..
theorem mn(J:sY c=aB)(l o:Nat)(z n:Bool)(S:s.size<=c):
  ∃t f,aV1 c l o z n (s.map (·.1))=aA (t,f)/\eZ c t.place (f.filterMap (s[·]?))/\(f.filterMap (s[·]?)).toList.Perm s.toList/\t.mask=c/\t.dummies= #[]/\t.led=z:=by
 obtain⟨p,R,L⟩:=aOB J (s.map (·.1)) (by rw[aSD];exact S)
 have B:=L.l7;rw[←aM7 L.i9,pL,aSD]at B;have u:=λq=>kq (q:=q) L.i9;have m:(Af c p).Pairwise λa b=>a.1<b.1:=aW6 _ (λa a' h b F b' E=>by obtain⟨_,_,rfl⟩:=EF.mp F;obtain⟨_,_,rfl⟩:=EF.mp E;exact h) aRN
 have g:∀q∈Af c p,q.2<s.size:=λq v=>qD.mp<|B.mem_iff.mp<|LG v;refine⟨LZ c l o z n<|Af c p,((Af c p).map (·.2)).toArray,by rw[aKW,R];rfl,?_⟩
 revert m u g B;generalize Af c p=P;intro B u m g;have d:Int×aD:=(0,.none);have e1:((P.map (·.2)).toArray.filterMap (s[·]?))=(P.map λq=>s.getD q.2 d).toArray:=by rw[List.filterMap_toArray,Lg,←List.filterMap_eq_map];exact aN _<|NP λq v=>(lJ<|g q v).trans<|aN aA (dif_pos<|g q v).symm
 rw[e1];have C:∀{i j:Nat},((P.map (·.1)).toArray)[i]? =aA j->∃q,P[i]? =aA q/\q.1=j:=λh=>by rw[wV,jW]at h;exact EF.mp h
 refine⟨⟨YS λa b x y H X F=> ?_,λi j D=> ?_,?_,J,λi e j K U=> ?_⟩,?_,rfl,rfl,rfl⟩
 ·obtain⟨q,A,rfl⟩:=C X;obtain⟨r,I,rfl⟩:=C F;obtain⟨Q,Z⟩:=iU.mp A;obtain⟨N,Y⟩:=iU.mp I;exact Z▸Y▸Dj.mp m a b Q N H
 ·obtain⟨q,A,rfl⟩:=C D;exact gW<|uX (Cc.mp<|(u q).mp<|fT A).1 L.i9
 ·show(P.map _).length=(P.map _).length;rw[bP,bP]
 ·obtain⟨q,A,rfl⟩:=C U;rw[wV,jW]at K;obtain⟨r,I,rfl⟩:=EF.mp K;obtain rfl:=aV<|A.symm.trans I;have v:=fT A;obtain⟨h,M,w⟩:=L.s7 _ _<|(u q).mp v;rw[mZ,Array.getElem?_map,lJ<|g q v]at M;have e5:(s[q.2]'(g q v)).1=h:=aV M;have e6:s.getD q.2 d=s[q.2]'(g q v):=dif_pos _;show pE c _ (s.getD q.2 d).1 q.1;rw[e6,e5];refine w.j4 λj ⟨k,T⟩=> ?_;obtain⟨i,D⟩:=wT.mp<|(u (j,k)).mpr T;exact⟨i,by rw[LZ,wV,jW,D];rfl⟩
 ·have:=B.map λk=>s.getD k d;rw[SO,kL]at this;exact this
end
end
section
noncomputable abbrev ES:=Array<|Int×aD
noncomputable def Gx(v:aD):Prop:=(∃i t,v= .int i t)\/∃c t,v= .str c t
section
variable{w:aW}{A:bN}{E:aD->aF->Prop}{s:aF}{k:List pH}{a b:aM}{v:aD}
theorem VV(h:(Tk w).is s.heap k a):∃o b n,s.heap.get? a=aA o/\o.cls= .type "tuple"/\o.data= .seq b n/\∀v∈b.toList,Gx v:=by
 obtain⟨o,b,n,f,q,j,g⟩:=h;refine⟨o,b,n,f,q,j,?_⟩;clear f j;generalize b.toList=l at g;induction g with
 |nil=>exactλr h=>(by contradiction)
 | @cons x v _ _ h _ m=>
  refineλu p=>(dA.mp p).elim (λe=> ?_)<|m u
  induction x with
  |inl i=>exact .inl ((Qj h).elim λt d=>⟨i,t,e.trans d⟩)
  |inr c=>exact .inr ((aPT h).elim λt d=>⟨c,t,e.trans d⟩)
theorem jz(n:Nat)(h:Gx v):LO n v=bB aI:=by rcases h with⟨_,_,rfl⟩|⟨_,_,rfl⟩<;>cases n<;>rfl
theorem aAL(n:Nat)(h:Gx v):∃b,aSJ n v=bB b:=by rcases h with⟨_,_,rfl⟩|⟨_,_,rfl⟩<;>cases n<;>exact⟨_,rfl⟩
noncomputable def ocB(y:aD)(_:Option Bool×Unit):eC (ForInStep<|Option Bool×Unit):=LO 7 y>>=λb=>if b=aB then bB (.done (aA aB,()))else bB (.yield (aC,()))
noncomputable def Ym(c:Option Bool×Unit):eC Bool:=match c.1 with
 |some r=>bB r
 |none=>bB aI
def oc2:Option (Array aD)->eC Bool
 |some a=>jD a ((aC,()):Option Bool×Unit) ocB>>=Ym
 |_=>bB aB
def YH(a:aM)(u:Bool):eC Bool:=if(!u)=aB then bB aI else cj (.ref a)>>=oc2
def oc0(a:aM):aD->eC Bool
 | .type t=>if(t== "tuple")=aB then bB aB>>=YH a else ao (.type t) (.type "tuple")>>=YH a
 |_=>bB aB
theorem zh(a:aM):LO 8 (.ref a)=QL (.ref a)>>=oc0 a:=by rfl'
theorem WB(h:(Tk w).is s.heap k a){Q:Bool->aF->Prop}(q:Q aI s):aL (Md w) A (LO 8<|.ref a) Q E s:=by obtain⟨o,e,n,g,m,l,j⟩:=VV h;rw[zh];refine aK<|AD ⟨o,g,m⟩<|aK<|bA<|aK<|zC g l ?_;refine aK ?_;rw[←aV2];refine aq _ (λb r d=>r=(aC,())/\d=s/\∀v∈b,Gx v) _ ?_ ?_ _ _ ⟨rfl,rfl,j⟩;rintro v b r d ⟨rfl,rfl,f⟩;refine aK ?_;rw[jz 7 (f v<|.head _)];exact bA<|bA ⟨rfl,rfl,λu i=>f u<|.tail _ i⟩;rintro c d ⟨rfl,rfl,_⟩;exact bA q
theorem aN7(h:(Tk w).is s.heap k a){Q:Bool->aF->Prop}(q:∀b,Q b s):aL (Md w) A (aSJ 8<|.ref a) Q E s:=by
 obtain⟨o,f,n,j,t,p,m⟩:=VV h;show aL _ _ (specialOf (.ref a) "__hash__">>=_) _ _ s;refine aK<|ay ⟨o,j,t⟩ F.slot_tuple_hash.lookup ?_;refine aK<|zC j p<|aK ?_;show aL _ _ (jD f _ _) _ _ s;rw[←aV2];refine aq _ (λd r g=>g=s/\∀v∈d,Gx v) _ ?_ ?_ _ _ ⟨rfl,m⟩;rintro v d r g ⟨rfl,i⟩;obtain⟨b,e⟩:=aAL 7<|i v<|.head _;refine aK ?_;rw[e];induction b using eT with
 |false=>exact bA<|bA<|bA<|q _
 |true=>exact bA<|bA ⟨rfl,λu l=>i u<|.tail _ l⟩
 rintro⟨c,_⟩ g ⟨rfl,_⟩;cases c<;>exact bA<|q _
noncomputable def vr(x y:aD):Bool:=match x,y with
 | .ref a,.ref b=>a==b
 |_,_=>aI
def scB(x y:aD)(_:Option Bool×Unit):eC (ForInStep<|Option Bool×Unit):=
 if(vr x y||(carriedByValue x&&carriedByValue y))=aB then bB (.yield (aC,()))else
 eqIsQuiet 8 x>>=λp=>if(!p)=aB then bB (.done (aA aB,()))else
 eqIsQuiet 8 y>>=λp=>if(!p)=aB then bB (.done (aA aB,()))else
 LO 8 x>>=λp=>if p=aB then bB (.done (aA aB,()))else
 LO 8 y>>=λp=>if p=aB then bB (.done (aA aB,()))else bB (.yield (aC,()))
theorem aKL(x:aD)(l:List aD):aSK x l=jD l ((aC,()):Option Bool×Unit) (scB x)>>=Ym:=by rfl'
noncomputable def Oq(w:aW)(h:dW)(y:aD):Prop:=∃k b,y= .ref b/\(Tk w).is h k b
theorem aFY(g:(Tk w).is s.heap k a)(l:List aD)(o:∀y∈l,Oq w s.heap y){Q:Bool->aF->Prop}(q:Q aI s):aL (Md w) A (aSK (.ref a) l) Q E s:=by rw[aKL];refine aK<|aq _ (λd r f=>r=(aC,())/\f=s/\∀y∈d,Oq w s.heap y) _ ?_ ?_ _ _ ⟨rfl,rfl,o⟩;rintro y d r f ⟨rfl,rfl,h⟩;obtain⟨p,b,rfl,i⟩:=h _<|.head _;have j:∀{c:Option Bool×Unit},c=(aC,())->c=(aC,())/\f=f/\∀y∈d,Oq w f.heap y:=λe=>⟨e,rfl,λy n=>h y<|.tail _ n⟩;refine xE (λm=>bA<|j rfl) λm=> ?_;exact aK<|(Tk w).quiet g<|aK<|(Tk w).quiet i<|aK<|WB g<|aK<|WB i<|bA<|j rfl;rintro c f ⟨rfl,rfl,_⟩;exact bA q
end
end
section
noncomputable abbrev ST:=ES×Nat×iV
noncomputable def uL(p:ES)(i:Nat):Int:=(p[i]?.map (·.1)).getD 0
section
variable(S:aM)(x:aD)(h:Int)(l:Nat)
noncomputable def sf5(next:AJ)(a:Bool):Option Nat->eC Ce
 |none=>yU "set.search.anew">>=λc=>RB S x h aB l aC
 |some b=>if a=aB then bB (.there (aA b))else RB S x h aB l (aA next)
noncomputable def Zl(y:aD)(a:ES)(K:Option Nat->eC Ce):SetTable.Slot->eC Ce
 | .live c=>match a[c]? with
  |some (_,d)=>isSame d y>>=λb=>bB (if b=aB then aA c else aC)>>=K
  |none=>bB aC>>=K
 |_=>bB aC>>=K
def sf4(t:iV)(j:Nat)(next:AJ)(y:aD)(a:Bool)(r:ST):eC Ce:=
 if(aB&&a)=aB then bB (.there aC)else match r.2.2.sameMemory t.moves t.mask with
 |some b=>Zl y r.1 (sf5 S x h l next a) (if b=aB then r.2.2.slot j else .empty)
 |_=>zK "set.changed-during-lookup:is-the-new-block-at-the-old-address"
def Jh(t:iV)(j:Nat)(next:AJ):Option (Int×aD)->eC Ce
 |some (_,y)=>rI [y] (eqBool y x)>>=λa=>LP S>>=sf4 S x h l t j next y a
 |_=>zK "internal:set-entry"
def sf2(p:ES)(t:iV):aV3->eC Ce
 | .empty j a=>match a with
  |none=>bB<|.free j aI
  |some d=>if(aB&&t.slot d != .dummy)=aB then yU "set.search.the-dummy-was-taken">>=λc=>RB S x h aB l aC else bB (.free d aB)
 | .candidate j i next=>if(!t.led)=aB then aSK x ((p.filter (·.1==h)).toList.map (·.2))>>=λb=>if b=aB then(zK "set:the-search-would-show-the-table":eC Unit)>>=λc=>Jh S x h l t j next p[i]? else Jh S x h l t j next p[i]? else Jh S x h l t j next p[i]?
def Mq(p:ES)(t:iV):Option aV3->eC Ce
 |some a=>sf2 S x h l p t a
 |_=>zK "internal:set-table-without-an-empty-slot"
def sf0(a:Option AJ)(r:ST):eC Ce:=
 if r.2.2.gaveWay=aB then(zK "set:on-a-table-that-gave-way":eC Unit)>>=λb=>Mq S x h l r.1 r.2.2 (r.2.2.probe (uL r.1) h<|a.getD<|r.2.2.probeStart h)else Mq S x h l r.1 r.2.2 (r.2.2.probe (uL r.1) h<|a.getD<|r.2.2.probeStart h)
theorem aC1(a:Option AJ):RB S x h aB (l+1) a=LP S>>=sf0 S x h l a:=by rfl'
end
structure eH(w:aW)(h:dW)(S:aM)(o:dE)(p:ES)(u:Nat)(t:iV):Prop where
 ho:h.get? S=aA o
 hd:o.data= .set p u t
 T:eZ t.mask t.place p
 dm:t.dummies= #[]
 hf:p.size<=t.mask
 hE:∀e∈p.toList,∃k b,e.2= .ref b/\(Tk w).is h k b/\e.1=(Tk w).hash k
theorem eH.J7{w:aW}{h:dW}{S:aM}{o:dE}{p:ES}{u:Nat}{t:iV}(B:eH w h S o p u t):t.fits p.size=aB:=
 sK.mpr ⟨beq_iff_eq.mpr B.T.i9,cU (by show t.place.size+t.dummies.size<=t.mask;rw[B.dm,B.T.i9];exact B.hf)⟩
section
variable{w:aW}{A:bN}{E:aD->aF->Prop}{s:aF}{S a:aM}{o:dE}{p:ES}{u:Nat}{t:iV}{k:List pH}{h:Int}
noncomputable def Am(w:aW)(c:dW)(p:ES)(t:iV)(k:List pH)(m:Nat):Prop:=∃(i:Nat) (e:Int×aD) (a:List pH) (b:aM),t.place[i]? =aA (W t.mask ((Tk w).hash k) m).j/\p[i]? =aA e/\e.2= .ref b/\(Tk w).is c a b/\a≠k
noncomputable def Ol(p:ES)(t:iV)(h:Int)(m:Nat):Prop:=∃i,t.slot (W t.mask h m).j= .live i/\uL p i≠h
theorem UB(f n:Nat):LQ t (uL p) h (f+1) (W t.mask h n)=match t.slot (W t.mask h n).j with
  | .empty=>aA<|.empty (W t.mask h n).j (W t.mask h n).dummy
  | .dummy=>LQ t (uL p) h f (t.advance {W t.mask h n with dummy:=aA (W t.mask h n).j})
  | .live i=>if(uL p i==h)=aB then aA (.candidate (W t.mask h n).j i (W t.mask h<|n+1))else LQ t (uL p) h f (W t.mask h<|n+1):=rfl
theorem aG1:∀(d n l:Nat),(∀m,m<d->Ol p t h (n+m))->d<l->∃f,LQ t (uL p) h l (W t.mask h n)=LQ t (uL p) h (f+1) (W t.mask h<|n+d):=by
 intro d;induction d with
 |zero=>intro n l _ a;obtain⟨f,rfl⟩:=Fb<|jQ a;exact⟨f,rfl⟩
 |succ d j=>
  intro n l b a;obtain⟨g,rfl⟩:=Fb<|jQ<|fZ (eO _) a;obtain⟨i,q,o⟩:=b 0<|gM d;obtain⟨f,e⟩:=j (n+1) g (λm k=>by rw[KM];exact b (m+1)<|fk k) (gj a)
  refine⟨f,?_⟩;rw[UB,show t.slot (W t.mask h n).j= .live i from q];rw[KM]at e;exact(bH λc=>o<|beq_iff_eq.mp c).trans e
theorem eH.at(B:eH w s.heap S o p u t){i j:Nat}(h:t.place[i]? =aA j):∃(e:Int×aD) (a:List pH) (b:aM),p[i]? =aA e/\e∈p.toList/\e.2= .ref b/\(Tk w).is s.heap a b/\e.1=(Tk w).hash a:=by have d:i<p.size:=B.T.i9▸(Cc.mp h).1;have c:p[i]∈p.toList:=yV.mpr<|aR4 d;obtain⟨a,b,k,g,f⟩:=B.hE _ c;exact⟨_,a,b,lJ d,c,k,g,f⟩
theorem eH.N6(B:eH w s.heap S o p u t)(j:Nat):(∃i,t.place[i]? =aA j/\t.slot j= .live i)\/¬sD t.place j/\t.slot j= .empty:=by
 by_cases c:sD t.place j
 obtain⟨i,e⟩:=c;exact .inl ⟨i,e,wj B.T.A6 e⟩;exact .inr ⟨c,Te B.dm c⟩
theorem eH.Q1(B:eH w s.heap S o p u t){m:Nat}(h:Ol p t ((Tk w).hash k) m):Am w s.heap p t k m:=by
 obtain⟨i,a,j⟩:=h;rcases B.N6 (W t.mask ((Tk w).hash k) m).j with⟨x,e,g⟩|⟨_,g⟩
 obtain rfl:=aW7<|a.symm.trans g;obtain⟨n,d,b,c,_,v,r,q⟩:=B.at e;refine⟨i,n,d,b,e,c,v,r,λf=>j ?_⟩;unfold uL;rw[c];exact f▸q;exact nomatch a.symm.trans g
theorem Am.O7{m:Nat}(h:Am w s.heap p t k m):sD t.place (W t.mask ((Tk w).hash k) m).j:=by obtain⟨i,_,_,_,e,_⟩:=h;exact⟨i,e⟩
theorem eH.h9(B:eH w s.heap S o p u t){n:Nat}(x:∀m,m<n->Am w s.heap p t k m)(j:¬sD t.place (W t.mask ((Tk w).hash k) n).j):∀e∈p.toList,∀b,e.2= .ref b->¬(Tk w).is s.heap k b:=λe q b v h=>by
 obtain⟨i,c⟩:=wT.mp q;rw[mZ]at c;have y:i<t.place.size:=B.T.i9▸(Cc.mp c).1;have a:=lJ y;obtain⟨r,f,d⟩:=B.T.L9 i e _ c a;obtain⟨K,P,I,H,F⟩:=B.hE e q;obtain rfl:=Ql<|v.symm.trans I;obtain rfl:=(Tk w).inj h H;rw[F]at f d;rw[←f]at a;rcases gi r n with g|g|g
 obtain⟨L,M,J,N,E,D,C,A,z⟩:=x r g;obtain rfl:=(OR B.T.A6 a).symm.trans<|OR B.T.A6 E;obtain rfl:=aV<|c.symm.trans D;obtain rfl:=Ql<|v.symm.trans C;exact z<|(Tk w).inj A h;exact j<|g▸⟨i,a⟩;exact j<|d n g
end
end
section
theorem aL6{b:Nat}{a:Array Nat}(s:lG a)(r:a.size<=b):∃x,x<=b/\¬sD a x:=fc λt=>by
 have d:∀x,x<=b->sD a x:=λx o=>fc λh=>t ⟨x,o,h⟩;have f:∀j,j<=b->∃i:Nat,j<=i/\a[i]? =aA j:=by
  intro j;induction j with
  |zero=>exactλh=>(d 0 h).elim λi e=>⟨i,eO i,e⟩
  |succ j n=>
   intro h;obtain⟨i,k,c⟩:=n<|EU h;obtain⟨m,g⟩:=d (j+1) h;refine⟨m,fq<|fZ k ?_,g⟩;rcases gi i m with q|q|q
   exact q;rw[q,g]at c;exact aZ (aV c)<|aQM j;exact aZ (s.p7 q g c)<|eI.mpr<|jC j
 obtain⟨i,k,c⟩:=f b<|bT _;exact aZ (Cc.mp c).1<|eI.mpr<|aR r k
section
variable{w:aW}{A:bN}{E:aD->aF->Prop}{s:aF}{S a:aM}{o:dE}{l:ES}{p:Nat}{t:iV}{k:List pH}{h:Int}
theorem aAH(B:eH w s.heap S o l p t)(hx:(Tk w).is s.heap k a)(hu:A.units<dO){Q:Ce->aF->Prop}
  (q1:(∃e∈l.toList,∃b,e.2= .ref b/\(Tk w).is s.heap k b)->∀r,Q (.there r) s)
  (q2:∀j,j<=t.mask->¬sD t.place j->pE t.mask (sD t.place) ((Tk w).hash k) j->(∀e∈l.toList,∀b,e.2= .ref b->¬(Tk w).is s.heap k b)->Q (.free j aI) s):
  ∀(q n:Nat) (D:Option AJ),D.getD (t.probeStart<|(Tk w).hash k)=W t.mask ((Tk w).hash k) n->10*Fd t.mask<q+n->(∀m,m<n->Am w s.heap l t k m)->aL (Md w) A (RB S (.ref a) ((Tk w).hash k) aB q D) Q E s:=by
 obtain⟨x,R,H⟩:=aL6 B.T.A6<|B.T.i9▸B.hf;obtain⟨N,hN,eN⟩:=aM2 B.T.H8 ((Tk w).hash k) R;have F:∀{n},(∀m,m<n->Am w s.heap l t k m)->n<=N:=λC=>Dq λh=>H<|eN▸(C N h).O7;intro q;induction q with
 |zero=>exactλn D L z C=>aZ (F C)<|Rs<|Hy hN<|(jH n).symm▸z
 |succ q ih=>
  intro n D T z C;rw[aC1];refine aK<|Cf B.ho B.hd B.J7 ?_;have hg:¬(t.mask % 2==0)=aB:=HN (P:=λm=>¬(m % 2==0)=aB) B.T.H8 (by decide) (by decide) (by decide) (by decide)
  refine xE (λc=>aZ c hg) λL=> ?_;show aL _ _ (Mq _ _ _ _ l t<|LQ t (uL l) _ (10*Fd t.mask)<|D.getD _) _ _ s;rw[T];obtain⟨d,hd,U,I⟩:=aDY (P:=λd=>Ol l t ((Tk w).hash k)<|n+d) (n:=N-n) λX=>X.elim λi Y=>Y.elim λe L=>by rw[oL (F C),eN,Te B.dm H]at e;exact(by contradiction)
  obtain⟨f,e⟩:=aG1 d n (10*Fd t.mask) I<|fZ (aR hd<|pI ..) hN;have v:∀m,m<n+d->Am w s.heap l t k m:=λm J=>by
   rcases Dk m n with g|g
   exact C m g;obtain⟨i,rfl⟩:=Ly g;exact B.Q1<|I i<|QZ J
  rw[e,UB];rcases B.N6 (W t.mask ((Tk w).hash k)<|n+d).j with⟨i,hi,g⟩|⟨K,g⟩
  rw[g];obtain⟨e',k',b,a1,am,a2,Z,a4⟩:=B.at hi;have hh:(uL l i==(Tk w).hash k)=aB:=beq_iff_eq.mpr<|aa λc=>U ⟨i,g,c⟩;dsimp only;rw[bO hh];have u:aL (Md w) A (Jh S (.ref a) ((Tk w).hash k) q t (W t.mask ((Tk w).hash k)<|n+d).j (W t.mask ((Tk w).hash k)<|n+d+1) l[i]?) Q E s:=by
   rw[a1];obtain⟨h0,y⟩:=e';obtain rfl:y= .ref b:=a2;refine aK<|fV<|(Tk w).eqBool hu Z hx<|aK<|Cf B.ho B.hd B.J7 ?_;by_cases M:k'=k;rw[cU M];exact bA<|q1 ⟨_,am,b,rfl,M▸Z⟩ aC;rw[fM M];show aL _ _ (match t.sameMemory t.moves t.mask with|some same=>_|_=>_) _ _ s
   rw[show t.sameMemory t.moves t.mask=aA aB from bO (beq_iff_eq.mpr rfl)];show aL _ _ (Zl (.ref b) l _<|t.slot (W t.mask ((Tk w).hash k)<|n+d).j) _ _ s;rw[g];show aL _ _ (match l[i]? with|some (_,y')=>_|none=>_) _ _ s
   rw[a1];refine aK<|wpAny_isSame_ref_self<|aK<|bA ?_;refine ih (n+d+1) _ rfl ?_ λm J=> ?_;exact cO z (by rw[KM];exact fG (gZ<|dI n d) q)
   rcases HC (gW J)with c|c
   exact v m c;exact c▸⟨i,_,k',b,hi,a1,rfl,Z,M⟩
  refine xE (λL=> ?_) λL=>u;refine aK<|aFY hx _ (λy hy=> ?_) u;obtain⟨e,he,rfl⟩:=gJ.mp hy;rw[Array.toList_filter]at he;obtain⟨k2,b2,c1,c2,_⟩:=B.hE e (jA.mp he).1;exact⟨k2,b2,c1,c2⟩;rw[g,aF3];exact bA<|q2 _ (ri _) K ⟨n+d,rfl,λm J=>(v m J).O7⟩<|B.h9 v K
end
end
section
section
variable(S:aM)(x:aD)(h:Int)
noncomputable def FD(f:ES)(p:Nat)(a:Bool)(t:iV):eC Bool:=storeSet S (rJ f p (h,x)) t>>=λb=>if(!a&&t.tooFull)=aB then setRelay S (HE<|f.size+1)>>=λb=>bB aB else bB aB
def ad2(a:Nat)(c:Bool)(r:ST):eC Bool:=if(r.2.2.put a).1.plain=aB then aSJ 8 x>>=λb=>FD S x h r.1 (r.2.2.put a).2 c (if b=aB then(r.2.2.put a).1 else{(r.2.2.put a).1 with plain:=aI})else bB aB>>=λb=>FD S x h r.1 (r.2.2.put a).2 c (if b=aB then(r.2.2.put a).1 else{(r.2.2.put a).1 with plain:=aI})
def ad1:Ce->eC Bool
 | .free a b=>LP S>>=ad2 S x h a b
 |_=>bB aI
noncomputable def aE8(d:Nat):Option Bool->eC Bool
 |some a=>bB a
 |none=>setAddHashedIn S x h d
def TY(d:Nat)(r:ST):eC Bool:=if byScan x r.1=aB then setAddByScan S x h r.1 r.2.2>>=aE8 S x h d else setSearch S x h aB>>=ad1 S x h
theorem ot(d:Nat):setAddHashedIn S x h (d+1)=LP S>>=TY S x h d:=by rfl'
end
noncomputable def Uo(f:ES):Option (iV×Array Nat)->eC (ES×iV)
 |some (t,a)=>if((a.filterMap (f[·]?)).size !=f.size)=aB then(zK "internal:set-table-lost-an-element":eC Unit)>>=λb=>bB (a.filterMap (f[·]?),t)else bB (a.filterMap (f[·]?),t)
 |_=>zK "internal:set-table-without-room"
def rl0(S:aM)(a:Nat)(r:ST):eC Unit:=if zL a>rD then(zK "set:memory":eC Unit)>>=λb=>Uo r.1 (r.2.2.relaid (r.1.map (·.1)) a)>>=λq=>storeSet S q.1 q.2 else Uo r.1 (r.2.2.relaid (r.1.map (·.1)) a)>>=λq=>storeSet S q.1 q.2
theorem aLD(S:aM)(a:Nat):setRelay S a=LP S>>=rl0 S a:=by rfl'
theorem aGI{a n:Nat}(b:sY a=aB)(c:n<301)(e:n*5<a*3)(d:a*3<=(n+1)*5):
  sY (zL (HE<|n+1)-1)=aB/\(n+1)*5<(zL (HE<|n+1)-1)*3/\zL (HE<|n+1)<=1000:=
 HN (P:=λm=>∀n,n<301->n*5<m*3->m*3<=(n+1)*5->sY (zL (HE<|n+1)-1)=aB/\(n+1)*5<(zL (HE<|n+1)-1)*3/\zL (HE<|n+1)<=1000) b (by decide+kernel) (by decide+kernel) (by decide+kernel) (by decide+kernel) n c e d
noncomputable def Kh(g h:dW):Prop:=∀b o,g.get? b=aA o->h.get? b=aA o
noncomputable def PB(w:aW)(h:dW)(l:List (Int×aD)):Prop:=∀e∈l,∃k b,e.2= .ref b/\(Tk w).is h k b/\e.1=(Tk w).hash k
inductive mS (w:aW) (g h:dW) (S:aM) (j:Bool) (y:List aD):Prop
 |mk {o:dE} {f:ES} {u:Nat} {t:iV} (ho:h.get? S=aA o) (hex:o.ExactSet) (hd:o.data= .set f u t) (T:eZ t.mask t.place f) (dm:t.dummies= #[]) (hf:f.size*5<t.mask*3) (hled:t.led=j) (hE:PB w g f.toList) (hp:(f.toList.map (·.2)).Perm y)
section
variable{w:aW}{A:bN}{E:aD->aF->Prop}{s:aF}{S a:aM}{o:dE}{f:ES}{u:Nat}{t i:iV}{k:List pH}{g:dW}{y:List aD}{j:Bool}
theorem GJ{h:dW}(K:Kh g h)(c:(Tk w).is g k a):(Tk w).is h k a:=by obtain⟨o,b,n,d,r⟩:=c;exact⟨o,b,n,K _ _ d,r⟩
theorem Jw{n m:Nat}(h:n*5<m*3):n<m:=Nat.lt_of_mul_lt_mul_right (cO h (DA m (by decide:3<=5)))
theorem HV{n:Nat}(h:n<=1000):n<=rD:=aR h (by rw[av];decide)
theorem Zv(d:s.heap.get? S=aA o)(c:o.data= .set f u t)(a:ES)(b:iV):(s.heap.update S<|gv a b).get? S=aA {o with data:= .set a (u+1) b}:=by rw[wX (gv a b) d (by rw[putSet_of a b c];rfl),putSet_of a b c]
theorem aIE(m:s.heap.get? S=aA o)(r:o.data= .set f u t)(B:t.fits f.size=aB){a:Nat}(z:sY (zL a-1)=aB)(l:zL a<=1000)(n:f.size<=zL a-1){Q:Unit->aF->Prop}
  (q:∀d h,eZ d.mask d.place h->h.toList.Perm f.toList->d.mask=zL a-1->d.dummies= #[]->d.led=t.led->Q () {s with heap:=s.heap.update S<|gv h d}):aL (Md w) A (setRelay S a) Q E s:=by
 obtain⟨d,b,e,T,p,v,D,C⟩:=mn z t.finger (t.movedTo<|zL a-1) t.led t.plain n;have e:t.relaid (f.map (·.1)) a=aA (d,b):=e;have k:(b.filterMap (f[·]?)).size=f.size:=p.length_eq;rw[aLD];refine aK<|Cf m r B<|xE (λc=>aZ (HV l)<|Rs c) λx=>aK ?_;rw[e];refine xE (λc=>aZ k<|bne_iff_ne.mp c) λx=>bA<|aV4 m r (q d _ (v▸T) p v D C) ?_;rw[k];exact HV<|aR n<|aR (pI ..) l
theorem aD4{h:Int}{v:aD}{p:Nat}(H:s.heap.get? S=aA o)(d:o.ExactSet)(K:o.data= .set f u t)(J:f.size*5<t.mask*3)(I:f.size<301)(T:eZ i.mask i.place (rJ f p (h,v)))(l:i.mask=t.mask)(B:i.dummies= #[])(D:i.led=j)
  (L:PB w g (rJ f p (h,v)).toList) (F:((rJ f p (h,v)).toList.map (·.2)).Perm y) {Q:Bool->aF->Prop}
  (q:∀m,lT S s.heap m->m.objs.size=s.heap.objs.size->mS w g m S j y->Q aB {s with heap:=m}):aL (Md w) A (FD S v h f p aI i) Q E s:=by
 have z:=NK (xs:=f) (p:=p) (x:=(h,v));have b:i.fits (rJ f p (h,v)).size=aB:=sK.mpr ⟨beq_iff_eq.mpr T.i9,cU (by show i.place.size+i.dummies.size<=i.mask;rw[B,T.i9,z,l];exact Jw J)⟩
 have r:=Zv H K (rJ f p (h,v)) i;have C:=qA s.heap S<|gv (rJ f p (h,v)) i;have a:i.tooFull=aQ ((f.size+1)*5>=t.mask*3):=by show aQ ((i.place.size+i.dummies.size)*5>=i.mask*3)=_;rw[B,T.i9,z,l];rfl
 refine aK (aV4 H K (xE (λc=> ?_) λc=> ?_) (z.symm▸HV (aR I (by decide))))
 ·have c:t.mask*3<=(f.size+1)*5:=bQ<|a.symm.trans c;obtain⟨Y,M,X⟩:=aGI (l▸T.H8) I J c;refine aK (aIE r rfl b Y X (z.symm▸Jw M|>dR) λN k T2 n P d2 R=>bA (q _ (C.trans<|qA _ S _) (by rw[LR,LR]) (.mk (Zv (s:={s with heap:=_}) r rfl k N) d rfl T2 d2 ?_ (R.trans D) (λe U=>L e<|n.mem_iff.mp U) ((n.map _).trans F))))
  have Z:k.size=f.size+1:=n.length_eq.trans z;rw[Z,P];exact M
 ·refine bA<|q _ C (LR ..)<|.mk r d rfl T B ?_ D L F;rw[z,l];exact EZ λc'=>c<|a.trans<|cU c'
end
end
section
variable{w:aW}{A:bN}{E:aD->aF->Prop}{s:aF}{S a:aM}{o:dE}{i:ES}{n j:Nat}{t l:iV}{k:List pH}{d:dW}{g:List aD}{f:Bool}
theorem yn(a:t.dummies= #[]):(t.put j).1.dummies= #[]:=by show(if aVX t.dummies j=aB then _ else t.dummies)= #[];rw[a];exact bH (by show ¬((aC==aA j)=aB);exactλc=>(by contradiction))
theorem aHZ{c:iV×Nat}{p:Nat}{y:Array Nat}(F:s.heap.get? S=aA o)(u:o.ExactSet)(K:o.data= .set i n t)(I:i.size*5<t.mask*3)(H:i.size<301)(T:eZ t.mask y (rJ i p ((Tk w).hash k,.ref a)))(M:c.2=p)(v:c.1.place=y)(h:c.1.mask=t.mask)(r:c.1.dummies= #[])(m:c.1.led=f)
  (L:PB w d i.toList) (D:(i.toList.map (·.2)).Perm g) (C:(Tk w).is d k a) {Q:Bool->aF->Prop}
  (q:∀j,lT S s.heap j->j.objs.size=s.heap.objs.size->mS w d j S f (g++[.ref a])->Q aB {s with heap:=j}) (b:Bool):aL (Md w) A (FD S (.ref a) ((Tk w).hash k) i c.2 aI (if b=aB then c.1 else{c.1 with plain:=aI})) Q E s:=by
 subst M v;have x:=YM i c.2 ((Tk w).hash k,tJ a);have z:∀l:iV,l.place=c.1.place->l.mask=t.mask->l.dummies= #[]->l.led=f->aL (Md w) A (FD S (.ref a) ((Tk w).hash k) i c.2 aI l) Q E s:=λl v h r m=>
  aD4 (g:=d) (y:=g++[.ref a]) F u K I H (by rw[v,h];exact T) h r m (λe J=>(dA.mp<|x.mem_iff.mp J).elim (λB=>⟨k,a,by rw[B],C,by rw[B]⟩) (L e)) ((x.map _).trans<|(D.cons _).trans (aVZ ..).symm) q
 induction b using eT with
 |true=>exact z _ rfl h r m
 |false=>exact z _ rfl h r m
theorem zj(hu:A.units<dO)(ht:mS w d s.heap S f g)(K:Kh d s.heap)(Y:(Tk w).is d k a)(hn:g.length<301){Q:Bool->aF->Prop}
  (f0:(∃b,tJ b∈g/\(Tk w).is s.heap k b)->Q aI s)
  (U:(∀b,tJ b∈g->¬(Tk w).is s.heap k b)->∀C,lT S s.heap C->C.objs.size=s.heap.objs.size->mS w d C S f (g++[.ref a])->Q aB {s with heap:=C}):aL (Md w) A (setAddHashed S (.ref a)<|(Tk w).hash k) Q E s:=by
 induction ht with| @mk o i n t y F z T dm Z q hE x=>
 have B:eH w s.heap S o i n t:=⟨y,z,T,dm,dR<|Jw Z,λe u=>(hE e u).elim λk N=>N.elim λb M=>M.elim λR L=>L.elim λh2 h3=>⟨k,b,R,GJ K h2,h3⟩⟩;have H:i.size<301:=fZ (bW<|(bP _).symm.trans x.length_eq) hn;have p:=GJ K Y;have e0:setAddHashed S (.ref a) ((Tk w).hash k)=rI [.ref a] (LP S>>=TY S (.ref a) ((Tk w).hash k) 99999):=aN (rI [.ref a])<|ot S (.ref a) _ 99999;rw[e0];refine fV<|aK<|Cf y z B.J7<|xE (λc=>aZ c cC) λX=>aK ?_;refine aAH B p hu (λ⟨e,u,b,I,p⟩ r=>bA<|f0 ⟨b,x.mem_iff.mp<|I▸LG u,p⟩) (λj hj D hw no=> ?_) 100000 0 aC rfl (HN (P:=λm=>10*Fd m<100000+0) T.H8 (by decide) (by decide) (by decide) (by decide)) λm hm=>aZ hm<|uP m
 have U:=U λb I p=>(gJ.mp<|x.mem_iff.mpr I).elim λe J=>J.elim λu R=>no e u b R p;have h:=aHZ (A:=A) (E:=E) (c:=t.put j) y F z Z H (T.w3 (v:= .ref a) hj D hw) rfl rfl rfl (yn dm) q hE x Y U;exact aK<|Cf y z B.J7<|xE (λX=>aK<|aN7 p h) λX=>aK<|bA<|h aB
theorem aG0(o:A.units<dO)(p:mS w d s.heap S f g)(K:Kh d s.heap)(m:(Tk w).is d k a)(q:g.length<301){Q:Bool->aF->Prop}
  (t:(∃b,tJ b∈g/\(Tk w).is s.heap k b)->∀j,Q aI {s with toks:=j})
  (r:(∀b,tJ b∈g->¬(Tk w).is s.heap k b)->∀e j,lT S s.heap e->e.objs.size=s.heap.objs.size->mS w d e S f (g++[.ref a])->Q aB {s with heap:=e,toks:=j}):aL (Md w) A (setAdd S<|.ref a) Q E s:=
 fV (aK ((Tk w).pyHash o (GJ K m) (zj (s:={s with toks:=s.toks+(Tk w).draws k}) o p K m q (λh=>t h _) λh e a b c=>r h e _ a b c)))
end
section
variable{w:aW}{p:Th}{A:bN}{E:aD->aF->Prop}{s d:aF}{S I c a:aM}{b:Bool}{f:dW}{B n:List aD}{l acc:List V}{j:Bool}{v:V}{x:aD}{i:Nat}
theorem mS.mv{h c:dW}(x:mS w f h S j n)(k:∀o,h.get? S=aA o->c.get? S=aA o):mS w f c S j n:=by induction x with|mk g b l T q i a m e=>exact .mk (k _ g) b l T q i a m e
theorem aU.N9{c:dW}{t:Nat}(g:aU d s)(h:d.heap.objs.size<=a)(k:∀b o,b≠a->s.heap.get? b=aA o->c.get? b=aA o)(z:s.heap.objs.size<=c.objs.size):aU d {s with heap:=c,toks:=t}:=
 ⟨λb o e=>k b o (lU<|cO (iF e) h)<|g.i8 b o e,aR g.i9 z,g.os,g.p8⟩
theorem aNQ(P:Ap p)(g:aU d s)(F:F2 (Rv w p d) acc n)(q:acc.all gP=aB)(o:gP v=aB):(∃b,tJ b∈n/\(Tk w).is s.heap (yO v) b)↔acc.any (λy=>cN y v)=aB:=by refine⟨λl=>l.elim λb m=>m.elim λz i=> ?_,λh=> ?_⟩;obtain⟨u,c,r⟩:=F.m9 z;have a:=cX.mp q u c;obtain⟨t,e,k,_⟩:=FV r a;obtain rfl:=Ql e;exact Ho.mpr ⟨u,c,(Jf a o).trans<|cU<|(Tk w).inj (GJ g.i8 k) i⟩;obtain⟨u,c,e⟩:=Ho.mp h;have a:=cX.mp q u c;obtain⟨y,x,r⟩:=F.M2.M2.N8 c;obtain⟨t,rfl,k,_⟩:=FV r a;rw[Jf a o]at e;exact⟨t,x,bQ e▸GJ g.i8 k⟩
end
section
variable{w:aW}{j:Th}{A:bN}{E:aD->aF->Prop}{s d:aF}{S I c a:aM}{b:Bool}{u p:List aD}{l acc:List V}{f:Bool}{v:V}{x:aD}{i:Nat}
structure Sl(w:aW)(j:Th)(d:aF)(S:aM)(f:Bool)(acc:List V)(s:aF):Prop where
 g:aU d s
 ts:∃p,mS w d.heap s.heap S f p/\F2 (Rv w j d) acc p
 kt:acc.all gP=aB
theorem Sl.mv{c:dW}{t:Nat}(x:Sl w j d S f acc s)(g:d.heap.objs.size<=a)(e:a≠S)(k:∀b o,b≠a->s.heap.get? b=aA o->c.get? b=aA o)(z:s.heap.objs.size<=c.objs.size):Sl w j d S f acc {s with heap:=c,toks:=t}:=by obtain⟨p,t,F⟩:=x.ts;exact⟨x.g.N9 g k z,⟨p,t.mv λo=>k S o e.symm,F⟩,x.kt⟩
theorem aKD(P:Ap j)(J:A.units<dO)(L:d.heap.objs.size<=S)(X:Sl w j d S f acc s)(r:Rv w j d v x)(n:gP v=aB)(K:acc.length<301){Q:Bool->aF->Prop}
  (q:∀b g t,Sl w j d S f (if acc.any (λy=>cN y v)then acc else acc++[v]) {s with heap:=g,toks:=t}->lT S s.heap g->Q b {s with heap:=g,toks:=t}):aL (Md w) A (setAdd S x) Q E s:=by
 obtain⟨p,C,F⟩:=X.ts;obtain⟨a,rfl,i,_⟩:=FV r n;have m:=aNQ P X.g F X.kt n;refine aG0 J C X.g.i8 i (F.f7.symm▸K) (λh k=> ?_) λh g k D z l=> ?_
 ·refine q _ s.heap k ?_ ⟨rfl,λH H=>rfl⟩;refine aE (bO<|m.mp h) ?_;exact⟨X.g.j3<|.n6 s k,⟨p,C,F⟩,X.kt⟩
 ·refine q _ g k ?_ D;refine aE (bH λc=>(m.mpr c).elim λb B=>B.elim λN M=>h b N M) ?_;exact⟨X.g.N9 L (λb o I e=>(D.2 b I).trans e)<|bW z.symm,⟨_,l,F.j7<|.p9 r⟩,by(refine aE bq ?_;refine aE X.kt ?_);exact(aPY _).trans n⟩
theorem aDE(P:Ap j)(hh:A.handled=aC)(hu:A.units+80<dO)(hS:d.heap.objs.size<=S)(Y:d.heap.objs.size<=I)(E:I≠S)(hc:iM b d.heap c u)(F:F2 (Rv w j d) l u)(hk:l.all gP=aB)(hl:l.length<=300){R:pJ->aF->Prop}:
  ∀(a:List V) (i:Nat) (acc:List V) (s:aF),l.drop i=a->acc.length<=i->Sl w j d S f acc s->kC b s.heap I c i->(∀k,Sl w j d S f (mV acc a) k->R (.ok (.ret .none)) k)->lI (Md w) A (.builtin "set.update.loop" ⟨[.ref S,.ref I],[]⟩) R s:=by
 have Q:∀{s:aF},aU d s->iM b s.heap c u:=λg=>hc.elim λo N=>N.elim λh r=>⟨o,g.i8 _ _ h,r⟩;intro a;induction a with
 |nil=>intro i acc s m B X J q;refine zJ aV5 ?_;refine aE (Dw aSL _) ?_;show aL _ _ (jI (.ref I)>>=_) _ _ s;have hi:u[i]? =aC:=uW<|F.f7.symm▸QG.mp m;exact aK<|Kv J (Q X.g) (λx K=>nn<|hi.symm.trans K) λZ=>⟨hh,λh' x z=>bA<|q _<|X.mv (t:=s.toks) Y E x z⟩
 |cons v a ih=>
  intro i acc s m B X J q;refine zJ aV5 ?_;refine aE (Dw aSL _) ?_;show aL _ _ (jI (.ref I)>>=_) _ _ s;have L:l[i]? =aA v:=by have:=aN (·[0]?) m;exact(QD ..).symm.trans this
  obtain⟨y,U,r⟩:=F.at L;have M:=(iU.mp L).1;refine aK<|Kv J (Q X.g) (λx K h' H T=> ?_) λe=>nn<|e.symm.trans U;obtain rfl:=aV<|U.symm.trans K;show aL _ _ (rI [y] (setAdd S y)>>=_) _ _ _;have X':=X.mv (t:=s.toks) Y E (λb o n e=>(T.2 b n).trans e)<|bW T.1.symm;refine aK (fV (aKD P (show A.units+1<dO from um hu) hS X' r (cX.mp hk v<|fT L) (BX<|aR B<|aR (dR M) hl) λZ h2 t X2 D=>bA ⟨Dx aSL _,?_⟩));refine ih (i+1) _ _ ?_ ?_ X2 ?_ λk C=>q k ?_
  ·(refine eJ ZQ ?_;refine aE m ?_);rfl
  by_cases c:acc.any (λy=>cN y v)=aB
  refine aE (bO c) ?_;exact uS B
  (refine aE (bH c) ?_;refine aE cM ?_);exact gZ B
  obtain⟨o,h,r⟩:=H;exact⟨o,(D.2 I E).trans h,r⟩;show Sl w j d S f (if acc.any (λy=>cN y v)then mV acc a else mV (acc++[v]) a) k;by_cases c:acc.any (λy=>cN y v)=aB;rw[bO c]at C⊢;exact C;rw[bH c]at C⊢;exact C
end
set_option maxHeartbeats 3200000
section
theorem aN8:ao (.type "tuple") (.type "set")=bB aI:=by rw[RE];rfl'
theorem aI2:ao (.type "tuple") (.type "frozenset")=bB aI:=by rw[RE];rfl'
section
variable{w:aW}{u:Th}{A:bN}{E:aD->aF->Prop}{s f:aF}{S c a:aM}{b:Bool}{p y:List aD}{l acc:List V}{j:Bool}{v:V}{x:aD}{i:Nat}
noncomputable abbrev MX(j:Bool):dE:={cls:= .type "set",dict:=aC,data:= .set #[] 0 (.fresh 0 0 j)}
theorem aAN(a:aD){b:aD->aF->Prop}(h:b (.ref s.heap.objs.size) {s with heap:=s.heap.push<|MX<|!w.params.followText "set-order"}):lI (Md w) A (.call (.builtin "set.__new__") ⟨[.type "set",a],[]⟩) (wants b E) s:=by
 refine ER ?_;show aL _ A.in1 (do checkBuiltinCall "set.__new__" ⟨[.type "set",a],[]⟩;tM (.builtin "set.__new__" ⟨[.type "set",a],[]⟩)) _ _ s
 refine aK (cf (F.newCall_set_1 a)<|bA ⟨Dx aV6 _,zJ F.entry_set_new ?_⟩);refine aE (Dw aV6 _) ?_;unfold Builtin.«set.__new__» aW8;have c:=sub_set_self;obtain⟨k,g,d,e,i⟩:=s;dsimp only;wp_walk;refine Qv<|bA ?_;dsimp only;simp only[newObj];refine aK<|aQZ<|bA ?_;exact bA h
theorem aOX(h:iM b s.heap c p){Q:Bool->aF->Prop}(q:Q aI s):aL (Md w) A (aV7<|.ref c) Q E s:=by
 obtain⟨o,a,d,_⟩:=h;unfold aV7;induction b using eT with
 |false=>exact aK<|EO ⟨o,a,d⟩ F.sub_list_set<|EO ⟨o,a,d⟩ F.sub_list_frozenset q
 |true=>exact aK<|EO ⟨o,a,d⟩ aN8<|EO ⟨o,a,d⟩ aI2 q
theorem aD3(P:Ap u)(K:A.handled=aC)(D:A.units+90<dO)(L:f.heap.objs.size<=S)(C:iM b f.heap c p)(F:F2 (Rv w u f) l p)(J:l.all gP=aB)(I:l.length<=300)(X:Sl w u f S j [] s)(x:S<s.heap.objs.size){Q:Unit->aF->Prop}
  (q:∀i,Sl w u f S j (mV [] l) i->Q () i):aL (Md w) A (aSM "set.__init__" S (.ref c)) Q E s:=by
 have a:iM b s.heap c p:=C.elim λo z=>z.elim λh r=>⟨o,X.g.i8 _ _ h,r⟩;obtain⟨o,H,v,n,N⟩:=id a;unfold aSM;refine aK<|aOX a ?_;refine xE (λh=>iZ h) λd=> ?_;refine aK<|AD ⟨o,H,v⟩ ?_;refine xE (λh=>by cases b<;>exact iZ h) λd=> ?_
 have B:∀g:dE,kC b (s.heap.push g) s.heap.objs.size c 0->aL (Md w) A (runValue<|.builtin "set.update.loop" ⟨[.ref S,.ref s.heap.objs.size],[]⟩) (λd i=>Q () i) E {s with heap:=s.heap.push g}:=λg m=>by refine gq (aDE P K (um D) L (aR X.g.i9<|bT _) (jQ x) C F J I l 0 [] _ rfl (bT 0) ⟨X.g.j3<|.u4 s g s.toks,?_,rfl⟩ m λi M=>q i M);obtain⟨y,t,F⟩:=X.ts;exact⟨y,t.mv λo h=>fC _ h,F⟩
 have k:∀{g:dE},kC b (s.heap.push g) s.heap.objs.size c 0->aL (Md w) A (runValue (.builtin "set.update.loop" ⟨[.ref S,.ref s.heap.objs.size],[]⟩)>>=λd=>bB ()) Q E {s with heap:=s.heap.push g}:=λm=>aK<|dP (B _ m) (λd d h=>bA h) λd d e=>e
 induction b using eT with
 |false=>exact aK<|aQQ a<|k ⟨_,oU ..,rfl,rfl⟩
 |true=>exact aK<|cu a<|k ⟨_,oU ..,rfl,rfl⟩
end
end
set_option maxHeartbeats 3200000
section
variable{w:aW}{d:Th}{A:bN}{E:aD->aF->Prop}{s:aF}{c a:aM}{b:Bool}{f:List aD}{l:List V}{x:aD}
noncomputable abbrev Gl(w:aW):Bool:= !w.params.followText "set-order"
theorem aPH(P:Ap d)(N:A.handled=aC)(I:A.units+120<dO)(U:iM b s.heap c f)(F:F2 (Rv w d s) l f)(M:l.all gP=aB)(L:l.length<=300){Q:aD->aF->Prop}
  (q:∀t,Sl w d s s.heap.objs.size (Gl w) (mV [] l) t->Q (.ref s.heap.objs.size) t):aL (Md w) A (fK (.type "set") [.ref c]) Q E s:=by
 obtain⟨cc,tl,z⟩:=Fe.mro;have v:=Fe.made;have y:=Fe.sub;refine QO<|ER ?_;show aL _ _ (callAny (.type "set") _) _ _ _;refine bA ⟨Code.quiet_builtin _ (by decide+kernel),zJ PySem.F.entry_type_call ?_⟩
 refine aE (Around.under_plain (weight_type_call_type "set" [.ref c] []) rfl) ?_;have h1:=Fe.notType;have h2:=Fe.canCreate;have T:=PySem.F.typeCall_set_1<|.ref c;repeat(any_goals (first|assumption|wp_step))
 refine RA (aAN (.ref c) (E:=E) (b:=λp a=>p= .ref s.heap.objs.size/\a={s with heap:=s.heap.push<|MX<|Gl w}) ⟨rfl,rfl⟩) λD a u=> ?_
 induction D with
 |error e=>exact u
 |ok fl=>
  induction fl with
  |ret p=>
   obtain⟨rfl,i⟩:=u;have h:a.heap.get? s.heap.objs.size=aA (MX<|Gl w):=by refine aE i ?_;exact oU ..
   have g1:aU s a:=by refine aE i ?_;exact aU.u4 s _ s.toks
   have B:bw a (.ref s.heap.objs.size) "set":=⟨_,h,rfl⟩;have K:=Fe.init.lookup;have Y:=Fe.init.bind<|.ref s.heap.objs.size;repeat(any_goals (first|assumption|wp_step))
   refine RA (codeAny_call_builtin (R:=wants (λr j=>r= .none/\Q (.ref s.heap.objs.size) j) E) Fe.init.plain PySem.F.entry_set_init<|check_set_init_1 B ?_) λo j g=> ?_;unfold Builtin.«set.__init__» noKeywords;generalize x:aSM "set.__init__"=UF;obtain⟨J,Z,dd1,C,H⟩:=a;dsimp only at h B;wp_walk;subst x;refine aD3 P (show A.in1.in1.handled=aC from N) (um (A:=A.in1.in1) (m:=118) (k:=90) (show A.units+120<dO from I)) (bT _) U F M L (j:=Gl w) ⟨g1,⟨[],.mk h ⟨rfl,rfl,rfl⟩ rfl aCC rfl (show 0*5<7*3 by decide) rfl (λe S=>nomatch S) .nil,rfl⟩,rfl⟩ (iF h) λt X=> ?_
   show aL _ _ (ret AF) _ _ _;exact bA ⟨rfl,q t X⟩;induction o with
   |error e=>exact g
   |ok n=>
    induction n with
    |ret r=>obtain⟨rfl,hq⟩:=g;repeat(any_goals (first|assumption|wp_step))
    |_=>exact g.elim
  |_=>exact u.elim
end
section
theorem Vs{b:Type}{l:List b}{i:Nat}(h:i<l.length):(l[i]::l.eraseIdx i).Perm l:=by
 induction l generalizing i with
 |nil=>exact aZ h<|uP _
 |cons a l c=>
  induction i using fO with
  |zero=>exact .refl _
  |succ i=>exact(List.Perm.swap ..).trans<|(c<|gj h).cons a
section
variable{M:Model}{A:bN}{E:aD->aF->Prop}
theorem aH3{s:aF}{a:Source}{n:Nat}(b:n≠0){Q:Nat->aF->Prop}(q:∀i d,i<n->Q i {s with drawn:=d}):aL M A (choose a n) Q E s:=λc p e=>(Sem.wp_choose ..).mpr ⟨b,q _ _<|QX _<|HD b⟩
theorem aO5{c:Type}(n:Nat):∀(xs:List c) {s:aF} {Q:List c->aF->Prop},xs.length=n->(∀a d,a.Perm xs->Q a {s with drawn:=d})->aL M A (drawOrder n xs) Q E s:=by
 induction n with
 |zero=>exactλxs s Q h q=>bA<|q [] s.drawn<|Dz h▸ .refl _
 |succ n e=>
  intro xs s Q h q;induction xs using bM with
  |nil=>exact vU h
  |cons x t=>
   show aL M A (choose .order (x::t).length>>=_) Q E s;refine aK<|aH3 (Ls _) λi d b=> ?_;show aL M A (match(x::t)[i]? with|some y=>drawOrder n ((x::t).eraseIdx i)>>=λr=>bB (y::r)|none=>zK "internal:drawOrder") Q E _
   refine aE (iA b) ?_;exact aK<|e _ ((aRT b).trans<|aN Nat.pred h) λa f p=>bA<|q _ f<|(p.cons _).trans<|Vs b
end
theorem XW{d:Type}(next:Nat->Nat)(a:Nat):∀(k:Nat) (left:List d) (b:Array d),left.length=a->(aV8 next a k left b).toList.Perm (b.toList++left):=by
 induction a with
 |zero=>exactλk left b h=>by rw[Dz h,fS];exact .refl _
 |succ a e=>
  intro k left b h;have c:next k % left.length<left.length:=QX _<|h▸gM a;show(match left[next k % left.length]? with|some x=>aV8 next a (k+1) (left.eraseIdx<|next k % left.length) (b.push x)|none=>b).toList.Perm _
  refine aE (iA c) ?_;refine(e (k+1) _ _<|(aRT c).trans<|aN Nat.pred h).trans ?_;rw[Rt,dK];exact(Vs c).append_left _
end
section
theorem aN6:dv table "set.__iter__"=aA Builtin.«frozenset.__iter__»:=
 entryFor_alias (id':= "frozenset.__iter__") (by rfl') rfl (by decide+kernel) (by rfl')
theorem wJ:Slot "set_iterator" "__next__" "set_iterator.__next__":=
 .of (owner:= "set_iterator") (n:= "__next__") (by rw[dq,ds];rfl') (by decide+kernel) (by decide+kernel) (by decide+kernel)
  (by first|exact .inl (by decide+kernel)|exact .inr (by decide+kernel)) (by rw[RE];rfl')
theorem KE:dv table "set_iterator.__next__"=aA Builtin.«set_iterator.__next__»:=aUC (by rfl')
theorem TX:Manifest.owners.lookup (String.ofList ['r','o','t','a','r','e','t','i','_','t','e','s'].reverse)=aA Manifest.sig_set_iterator:=by rfl'
theorem Jk(a:aD):gw "set_iterator.__next__" ⟨[a],[]⟩:=by unfold gw;refine aE (signature?_of (id:= "set_iterator.__next__") (n:=['_','_','t','x','e','n','_','_']) (o:=['r','o','t','a','r','e','t','i','_','t','e','s']) (by rfl') TX) ?_;rfl'
end
section
section
variable{w:aW}{A:bN}{E:aD->aF->Prop}{s:aF}
noncomputable def oW(first:aD)(i:Int)(a:aD)(n b:Int):dE:={cls:= .type "set_iterator",data:= .fields #[first,.int i 0,a,.int n 0,.int b 0]}
theorem Jl{Q:Bool->aF->Prop}(q:Q (w.params.followText "set-order") s):aL (Md w) A setsByText Q E s:=by unfold setsByText;exact aK<|Qv<|bA q
theorem xw{S:aM}{o:dE}{a:Array (Int×aD)}{k:Nat}{t:iV}(c:s.heap.get? S=aA o)(j:o.ExactSet)(f:o.data= .set a k t)(e:t.fits a.size=aB)(q:a.size<=rD){Q:aD->aF->Prop}
  (n:(w.params.followText "set-order"=aB\/t.plain=aB\/a.size<=1)->Q (.ref s.heap.objs.size) {s with heap:=s.heap.push<|oW (.int 0 0) 0 (.ref S) a.size k})
  (m:∀(b:List Nat) d,b.Perm (eW a.size)->Q (.ref (s.heap.objs.size+1)) {s with heap:=(s.heap.push<|jR "tuple" (b.map λ(i:Nat)=>lV i).toArray 0).push<|oW (.ref s.heap.objs.size) 0 (.ref S) a.size k,drawn:=d}):
  aL (Md w) A (rE<|.ref S) Q E s:=by
 have l:s.TypeIs (.ref S) "set":=⟨o,c,j.1⟩;refine aSE l aV9<|nN aV9 l aN6 ?_<|F.args_set_iter_1 _;unfold Builtin.«frozenset.__iter__» aW9 slotArgs;simp only[List.isEmpty_nil,aRA,Hv,↓reduceIte,bind_assoc,aPV,bne_self_eq_false];unfold aXA aXB;refine aK<|bA ?_;try dsimp only
 refine aK (bA ?_);refine aK<|aK<|RF c f e<|bA ?_;unfold setDrawn;refine aK<|aK<|Cf c f e ?_;dsimp only;refine aK<|Jl<|bA ?_;by_cases g:(!w.params.followText "set-order"&&(!t.plain&&aQ (a.size>1)))=aB
 ·refine(show aL _ _ (if(!w.params.followText "set-order"&&(!t.plain&&aQ (a.size>1)))=aB then _ else _) _ _ _ from ?_);rw[bO g];refine aK<|aO5 _ _ pK λb d p=> ?_;refine aK (yY ?_ (by show(dj (λ(i:Nat)=>lV i) b).toArray.size<=rD;rw[Ht,bP,p.length_eq,pK];exact q))
  refine aK (aWA (fC _ c) f e ?_);refine aK<|yY<|bA ⟨_,rfl,"set_iterator",_,⟨_,kZ _ rfl,rfl⟩,wJ.lookup,?_⟩;have:=m b d p;rw[lH];exact this
 ·refine(show aL _ _ (if(!w.params.followText "set-order"&&(!t.plain&&aQ (a.size>1)))=aB then _ else _) _ _ _ from ?_);rw[bH g];refine aK<|bA ?_;refine aK<|aWA c f e ?_;refine aK<|yY<|bA ⟨_,rfl,"set_iterator",_,⟨_,kZ _ rfl,rfl⟩,wJ.lookup,?_⟩;refine n ?_;cases u:w.params.followText "set-order"with
  |true=>exact .inl rfl
  |false=>
   cases r:t.plain with
   |true=>exact .inr (.inl rfl)
   |false=>rw[u,r]at g;refine .inr (.inr (eI.mp λh=>g ?_));simpa using h
end
end
section
section
variable{w:aW}{A:bN}{E:aD->aF->Prop}{s:aF}
theorem VY{I S:aM}{o:dE}{f:Array (Int×aD)}{b:Nat}{t:iV}{g i c:Nat}{x:aD}(d:s.heap.get? I=aA (oW (.int g 0) i (.ref S) f.size b))(p:s.heap.get? S=aA o)(v:o.data= .set f b t)(u:t.fits f.size=aB){Q:Option aD->aF->Prop}
  (r:∀{Q':Option (aD×Nat)->aF->Prop},Q' (aA (x,c)) s->aL (Md w) A.in1 (Ff S g i b) Q' (λn n=>False) s)
  (q:∀k,k.get? I=aA (oW (.int c 0) (i+1:Nat) (.ref S) f.size b)->lT I s.heap k->Q (aA x) {s with heap:=k}):
  aL (Md w) A (jI<|.ref I) Q E s:=by
 have l:s.TypeIs (.ref I) "set_iterator":=⟨_,d,rfl⟩;unfold jI;refine aK<|BU<|wW (name:=cD "__next__") l wJ<|nN wJ l KE ?_<|Jk _;unfold Builtin.«set_iterator.__next__»;refine aK<|bA ?_;refine aK<|Lm d rfl ?_;dsimp only;refine aK<|RF p v u ?_;refine aE (bH (by simp)) ?_
 show aL _ _ (Ff S g i b>>=_) _ _ s;refine aK<|dP (r (Q':=λa j=>a=aA (x,c)/\j=s) ⟨rfl,rfl⟩) (λa j h=> ?_) λe j h=>h.elim;obtain⟨rfl,rfl⟩:=h;dsimp only;refine aK (BR d rfl (by simp) ?_)
 have m:=wX (Hr (·.setIfInBounds 0 (lV c))) d rfl;refine aK (BR m rfl (by simp) ?_)
 have y:=wX (Hr (·.setIfInBounds 1 (lV<|(i:Int)+1))) m rfl;refine bA ⟨_,rfl,bA<|q _ ?_<|(qA ..).trans<|qA ..⟩;exact y
theorem aLG{I S T:aM}{o:dE}{a:Array (Int×aD)}{h:Nat}{t:iV}{i d:Nat}{c:List Nat}{u:Int}{x:aD}(b:s.heap.get? I=aA (oW (.ref T) i (.ref S) a.size h))(f:s.heap.get? T=aA (jR "tuple" (c.map λ(i:Nat)=>lV i).toArray 0))(j:s.heap.get? S=aA o)(l:o.data= .set a h t)(k:t.fits a.size=aB){Q:Option aD->aF->Prop}
  (n:c[i]? =aA d) (p:a[d]? =aA (u,x))
  (q:∀g,g.get? I=aA (oW (.ref T) (i+1:Nat) (.ref S) a.size h)->lT I s.heap g->Q (aA x) {s with heap:=g}):
  aL (Md w) A (jI<|.ref I) Q E s:=by
 have m:s.TypeIs (.ref I) "set_iterator":=⟨_,b,rfl⟩;unfold jI;refine aK<|BU<|wW (name:=cD "__next__") m wJ<|nN wJ m KE ?_<|Jk _;unfold Builtin.«set_iterator.__next__»;refine aK<|bA ?_;refine aK<|Lm b rfl ?_;dsimp only;refine aK<|RF j l k ?_;refine aE (bH (by simp)) ?_
 show aL _ _ (cj (.ref T)>>=_) _ _ s;refine aK<|zC f rfl ?_;have e:(c.map λ(i:Nat)=>lV i).toArray[(i:Int).toNat]? =aA (.int (d:Nat) 0):=by rw[Ll,wV,jW,n];rfl
 dsimp only;rw[e];dsimp only;unfold setNextDrawn;refine aK<|aK<|Cf j l k ?_;dsimp only;rw[bH (by simp)]
 rw[Ll,p];refine bA ?_;refine aK (BR b rfl (by simp) ?_)
 have r:=wX (Hr (·.setIfInBounds 1 (lV<|(i:Int)+1))) b rfl;exact bA ⟨_,rfl,bA<|q _ r<|qA ..⟩
end
end
section
section
variable{w:aW}{A:bN}{E:aD->aF->Prop}{s:aF}
theorem YF(g:A.handled=aC){Q:Option aD->aF->Prop}(q:∀c,EN 0 s.heap c->(∀b o,s.heap.get? b=aA o->c.get? b=aA o)->s.heap.objs.size<=c.objs.size->Q aC {s with heap:=c}):
  aL (Md w) A.in1 (bx (.type "StopIteration") []>>=bz (α:=Hm)) (λd d=>False) (λe f=>aL (Md w) A (do if ←ak e (.type "StopIteration")then bB aC else throw e) Q E f) s:=by
 refine aK ?_;delta bx newTuple;refine aK (yY ?_ (by size_fits))
 refine aK (m:=firstArgMember _ _) (cf (a:=AF) (by first|rfl|(delta firstArgMember;rfl)) ?_)
 refine yY ?_ (by size_fits)
 (delta bz;dsimp only)
 refine aK (wpAny_handled ?_);refine aE (show A.in1.handled=aC from g) ?_;refine aK<|bA<|wpAny_throw ?_;refine aK<|EO (T:= "StopIteration") (b:=aB) ⟨_,kZ _ rfl,rfl⟩ aQO ?_;refine bA<|q _ ?_ (λb o e=>fC _<|fC _ e) ?_
 ·exactλb o d e=>fC _<|fC _ e
 ·rw[lH,lH];exact aR (jC _)<|jC _
theorem XV(v:A.handled=aC){I S:aM}{o:dE}{l:Array (Int×aD)}{g:Nat}{t:iV}{j i:Nat}(k:s.heap.get? I=aA (oW (.int j 0) i (.ref S) l.size g))(p:s.heap.get? S=aA o)(y:o.data= .set l g t)(x:t.fits l.size=aB){Q:Option aD->aF->Prop}
  (r:∀{Q':Option (aD×Nat)->aF->Prop},Q' aC s->aL (Md w) A.in1 (Ff S j i g) Q' (λf f=>False) s)
  (q:∀c,EN I s.heap c->s.heap.objs.size<=c.objs.size->Q aC {s with heap:=c}):
  aL (Md w) A (jI<|.ref I) Q E s:=by
 have n:s.TypeIs (.ref I) "set_iterator":=⟨_,k,rfl⟩;unfold jI;refine aK<|BU<|wW (name:=cD "__next__") n wJ<|nN wJ n KE ?_<|Jk _;unfold Builtin.«set_iterator.__next__»;refine aK<|bA ?_;refine aK<|Lm k rfl ?_;dsimp only;refine aK<|RF p y x ?_;refine aE (bH (by simp)) ?_
 show aL _ _ (Ff S j i g>>=_) _ _ s;refine aK<|dP (r (Q':=λa d=>a=aC/\d=s) ⟨rfl,rfl⟩) (λa d h=> ?_) λe d h=>h.elim;obtain⟨rfl,rfl⟩:=h;dsimp only;refine aK (BR k rfl (by simp) ?_)
 refine dP (YF (Q:=Q) (E:=E) v λc f u m=>q c (λb o z e=>u b o<|(qA ..).extBut b o z e) (by rw[LR]at m;exact m)) (λf f h=>h.elim) λe d h=> ?_
 exact h
theorem kg(v:A.handled=aC){I S T:aM}{o:dE}{g:Array (Int×aD)}{n:Nat}{t:iV}{i:Nat}{d:List Nat}(c:s.heap.get? I=aA (oW (.ref T) i (.ref S) g.size n))(f:s.heap.get? T=aA (jR "tuple" (d.map λ(i:Nat)=>lV i).toArray 0))(r:s.heap.get? S=aA o)(y:o.data= .set g n t)(x:t.fits g.size=aB){Q:Option aD->aF->Prop}
  (p:d[i]? =aC)
  (q:∀a,EN I s.heap a->s.heap.objs.size<=a.objs.size->Q aC {s with heap:=a}):
  aL (Md w) A (jI<|.ref I) Q E s:=by
 have m:s.TypeIs (.ref I) "set_iterator":=⟨_,c,rfl⟩;unfold jI;refine aK<|BU<|wW (name:=cD "__next__") m wJ<|nN wJ m KE ?_<|Jk _;unfold Builtin.«set_iterator.__next__»;refine aK<|bA ?_;refine aK<|Lm c rfl ?_;dsimp only;refine aK<|RF r y x ?_;refine aE (bH (by simp)) ?_
 show aL _ _ (cj (.ref T)>>=_) _ _ s;refine aK<|zC f rfl ?_;have e:(d.map λ(i:Nat)=>lV i).toArray[(i:Int).toNat]? =aC:=by rw[Ll,wV,jW,p];rfl
 dsimp only;rw[e];dsimp only;refine aK<|BR c rfl (gM _) ?_;have z:=wX (Hr (·.setIfInBounds 0 (lV 0))) c rfl;refine aK (BR z rfl (by simp) ?_)
 refine dP (YF (Q:=Q) (E:=E) v λa j u k=>q a (λb o l e=>u b o<|(qA ..).extBut b o l<|(qA ..).extBut b o l e) (by rw[LR,LR]at k;exact k)) (λj j h=>h.elim) λe B h=> ?_
 exact h
end
end
section
theorem WP:Slot "set_iterator" "__iter__" "set_iterator.__iter__":=
 .of (owner:= "set_iterator") (n:= "__iter__") (by rw[dq,ds];rfl') (by decide+kernel) (by decide+kernel) (by decide+kernel)
  (by first|exact .inl (by decide+kernel)|exact .inr (by decide+kernel)) (by rw[RE];rfl')
theorem ve:dv table "set_iterator.__iter__"=aA Builtin.«dict_keyiterator.__iter__»:=
 entryFor_alias (id':= "dict_keyiterator.__iter__") (by rfl') rfl (by decide+kernel) (by rfl')
theorem xe(a:aD):gw "set_iterator.__iter__" ⟨[a],[]⟩:=by unfold gw;refine aE (signature?_of (id:= "set_iterator.__iter__") (n:=['_','_','r','e','t','i','_','_']) (o:=['r','o','t','a','r','e','t','i','_','t','e','s']) (by rfl') TX) ?_;rfl'
section
variable{w:aW}{A:bN}{E:aD->aF->Prop}{s:aF}
theorem OL{I:aM}(a:s.TypeIs (.ref I) "set_iterator"){Q:aD->aF->Prop}(q:Q (.ref I) s):aL (Md w) A (rE<|.ref I) Q E s:=by refine aSE a WP (nN WP a ve ?_<|xe _);show aL _ _ (ret<|.ref I) _ _ s;exact bA ⟨_,rfl,"set_iterator",_,a,wJ.lookup,q⟩
theorem aD6{r:aM}{Q:Bool->aF->Prop}(e:s.TypeIs (.ref r) "set")(h:Q aI s):aL (Md w) A (aSN<|.ref r) Q E s:=by
 unfold aSN;refine aK<|ay e PySem.F.slot_set_len.lookup ?_;generalize c:("set.__len__":String)=d;wp_delta;refine aE (show splitId d=aA ("set","__len__")from by subst c;decide+kernel) ?_
 subst c;refine aK (EO (T:= "set") (b:=aB) e (by rw[RE];rfl') ?_)
 refine xE (λa=>aZ a (by decide)) (λf=> ?_)
 refine xE (λf=> ?_) (λa=>aZ (by decide+kernel) a)
 refine aK (AD e ?_);exact bA h
theorem RK{S:aM}{o:dE}{a:Array (Int×aD)}{b:Nat}{t:iV}{c i:Nat}(d:w.params.followText "set-order"=aB)(f:s.heap.get? S=aA o)(h:o.data= .set a b t)(g:t.fits a.size=aB){Q:Option (aD×Nat)->aF->Prop}
  (q:Q (((LU (w.params.setOrder S b) a)[i]?).map λe=>(e.2,c)) s):aL (Md w) A (Ff S c i b) Q E s:=by
 unfold Ff;refine aK<|Cf f h g ?_;dsimp only;refine aK<|Jl ?_;refine aE d ?_;refine aE (bO rfl) ?_;refine aE (bH (by simp)) ?_
 refine aK ?_;unfold setWalk;refine aK<|Cf f h g ?_;dsimp only;refine aK<|Jl ?_;refine aE d ?_;rw[bO rfl];refine aK<|Qv ?_;exact bA<|bA q
theorem Wk{S:aM}{o:dE}{a:Array (Int×aD)}{e:Nat}{t:iV}{c i:Nat}(f:w.params.followText "set-order"=aI)(b:t.led=aB)(g:t.plain=aB\/a.size<=1)(k:s.heap.get? S=aA o)(m:o.data= .set a e t)(l:t.fits a.size=aB){Q:Option (aD×Nat)->aF->Prop}
  (q:Q (match a[xD t.place c]?,t.place[xD t.place c]? with
   |some (_,x),aA j=>aA (x,j+1)
   |_,_=>aC) s):aL (Md w) A (Ff S c i e) Q E s:=by
 unfold Ff;refine aK<|Cf k m l ?_;dsimp only;refine aK<|Jl ?_;rw[f];rw[bH (by simp)]
 have d:(!t.plain&&aQ (a.size>1))=aI:=by
  rcases g with h|h
  rw[h];rfl;rw[show aQ (a.size>1)=aI by simpa using h,Qm]
 refine(show aL _ _ (if(!t.plain&&aQ (a.size>1))=aB then _ else _) _ _ _ from ?_);rw[bH (by refine aE d ?_;exact cC)]
 refine aK ?_;refine(show aL _ _ (if(!t.led&& !a.isEmpty)=aB then _ else _) _ _ _ from ?_);rw[bH (by refine aE b ?_;exact cC)]
 refine bA (bA q)
end
end
section
theorem Op{I:aM}{h a:dW}{b:aM}{o:dE}(x:EN I h a)(c:b∉[I])(e:h.get? b=aA o):a.get? b=aA o:=x b o (λh=>c<|dU.mpr h) e
section
variable{w:aW}{A:bN}{E:aD->aF->Prop}{s:aF}
theorem vp(F:A.handled=aC)(z:w.params.followText "set-order"=aB){I S:aM}(l:I≠S){o:dE}{c:Array (Int×aD)}{f:Nat}{t:iV}(p:o.data= .set c f t)(n:t.fits c.size=aB):
  Walks sF w A I [I,S] [I] c.size (λi v=>((LU (w.params.setOrder S f) c).toList.map (·.2))[i]? =aA v) (λi h=>h.get? I=aA (oW (.int (0:Nat) 0) (i:Nat) (.ref S) c.size f)/\h.get? S=aA o):=by
 have C:(LU (w.params.setOrder S f) c).toList.Perm c.toList:=by exact XW (w.params.setOrder S f) c.size 0 c.toList #[] rfl
 have d:(LU (w.params.setOrder S f) c).size=c.size:=by exact pL.symm.trans (C.length_eq.trans pL)
 have H:S∉[I]:=λh=>l (dU.mp h).symm;refine⟨λb j=>dU.mp j▸ .head _,λr r r a B=>⟨B I (.head _) _ a.1,B S (.tail _ (.head _)) _ a.2⟩,λi s Q E D a k=> ?_,λs Q E a k=> ?_,λi s Q E a k=>OL ⟨_,a.1,rfl⟩ k⟩
 ·have g:i<(LU (w.params.setOrder S f) c).size:=uX D d.symm;refine VY (x:=(LU (w.params.setOrder S f) c)[i].2) (c:=0) a.1 a.2 p n (λq=>RK z a.2 p n ?_) λy u m=> ?_;refine aE (lJ g) ?_;exact q;refine k _ y s.toks ?_ ⟨u,(m.2 S<|tQ l).trans a.2⟩ λb o j e=>(m.2 b<|λe=>j<|dU.mpr e).trans e
  (refine aE (jW) ?_;refine aE (mZ) ?_;refine aE (lJ g) ?_);rfl
 ·refine XV F a.1 a.2 p n (λq=>RK z a.2 p n ?_) λy m r=>k y s.toks λb o j e=>Op m j e;refine aE (aWB<|bW d) ?_;exact q
theorem aJI(N:A.handled=aC)(F:w.params.followText "set-order"=aI){I S:aM}(m:I≠S){o:dE}{d:Array (Int×aD)}{K:Nat}{t:iV}(u:o.data= .set d K t)(r:t.fits d.size=aB)(c:t.led=aB)(H:t.plain=aB\/d.size<=1)(M:lG t.place)(L:t.place.size=d.size):
  Walks sF w A I [I,S] [I] d.size (λi v=>(d.toList.map (·.2))[i]? =aA v) (λi h=>(∃f:Nat,h.get? I=aA (oW (.int f 0) (i:Nat) (.ref S) d.size K)/\xD t.place f=i)/\h.get? S=aA o):=by
 have P:S∉[I]:=λh=>m (dU.mp h).symm;refine⟨λb k=>dU.mp k▸ .head _,λy y y a J=>⟨a.1.elim λf h=>⟨f,J I (.head _) _ h.1,h.2⟩,J S (.tail _ (.head _)) _ a.2⟩,λi s Q E z a l=> ?_,λs Q E a l=> ?_,λi s Q E a l=>let⟨_,n,_⟩:=a.1;OL ⟨_,n,rfl⟩ l⟩
 ·obtain⟨⟨f,n,C⟩,g⟩:=a;have j:i<t.place.size:=uX z L.symm;refine VY (x:=d[i].2) (c:=t.place[i]+1) n g u r (λq=>Wk F c H g u r ?_) λD B p=> ?_
  ·(refine aE C ?_;refine aE (lJ j) ?_;refine aE (lJ z) ?_);exact q
  refine l _ D s.toks ?_ ⟨⟨_,B,aO4 M<|lJ j⟩,(p.2 S<|tQ m).trans g⟩ λb o k e=>(p.2 b<|λe=>k<|dU.mpr e).trans e
  (refine aE (jW) ?_;refine aE (mZ) ?_;refine aE (lJ z) ?_);rfl
 ·obtain⟨⟨f,n,C⟩,g⟩:=a;refine XV N n g u r (λq=>Wk F c H g u r ?_) λD p y=>l D s.toks λb o k e=>Op p k e
  (refine aE C ?_;refine aE (aWB<|bT _) ?_);exact q
theorem aFK(X:A.handled=aC){I S T:aM}(B:I≠S)(F:I≠T){o:dE}{c:Array (Int×aD)}{P:Nat}{t:iV}(N:o.data= .set c P t)(M:t.fits c.size=aB){d:List Nat}(L:d.Perm (eW c.size)):
  Walks sF w A I [I,T,S] [I] c.size (λi v=>((d.filterMap λk=>c[k]?).map (·.2))[i]? =aA v) (λi h=>h.get? I=aA (oW (.ref T) (i:Nat) (.ref S) c.size P)/\h.get? T=aA (jR "tuple" (d.map λ(i:Nat)=>lV i).toArray 0)/\h.get? S=aA o):=by
 have Y:S∉[I]:=λh=>B (dU.mp h).symm;have f:d.length=c.size:=by exact aE L.length_eq (aE pK rfl)
 have q:∀y∈d,y<c.size:=λy h=>qD.mp<|L.mem_iff.mp h;have D:∀j:List Nat,(∀y∈j,y<c.size)->∀i:Nat,(j.filterMap λk=>c[k]?)[i]? =(j[i]?).bind λk=>c[k]? :=by
  intro j;induction j with
  |nil=>exactλl l=>rfl
  |cons z j R=>
   intro K i;have m:=K z List.mem_cons_self
   (refine aE LC ?_;refine aE (lJ m) ?_)
   induction i using fO with
   |zero=>exact(lJ m).symm
   |succ i=>exact R (λy h=>K y<|aUR _ h) i
 refine⟨λb r=>dU.mp r▸ .head _,λl l l a C=>⟨C I (.head _) _ a.1,C T (.tail _ (.head _)) _ a.2.1,C S (.tail _ (.tail _ (.head _))) _ a.2.2⟩,λi s Q E U a u=> ?_,λs Q E a u=> ?_,λi s Q E a u=>OL ⟨_,a.1,rfl⟩ u⟩
 ·have g:i<d.length:=uX U f.symm;have p:=q _<|EY g;refine aLG (x:=c[d[i]].2) (d:=d[i]) (u:=c[d[i]].1) a.1 a.2.1 a.2.2 N M (iA g) (lJ p) λJ H n=> ?_;refine u _ J s.toks ?_ ⟨H,(n.2 T<|tQ F).trans a.2.1,(n.2 S<|tQ B).trans a.2.2⟩ λb o r e=>(n.2 b<|λe=>r<|dU.mpr e).trans e;rw[jW,D d q,iA g,aU3,lJ p];rfl
 ·exact kg X a.1 a.2.1 a.2.2 N M (uW<|bW f) λJ n l=>u J s.toks λb o r e=>Op n r e
end
end
section
section
variable{w:aW}{A:bN}{E:aD->aF->Prop}{s:aF}
theorem OA{I L S:aM}{N:List aM}{n:Nat}{P:Nat->aD->Prop}{J:Nat->dW->Prop}(W:Walks sF w A.in1 I N [I] n P J)(Q:n<=rD)(x:L∉N){R:pJ->aF->Prop}(U:s.TypeIs (.ref S) "set")(K:J 0 s.heap)(i:aD){j:Nat}(E:s.heap.get? L=aA {cls:= .type "list",data:= .seq #[] j})
  (X:∀F y a q,(∀b o,b≠L->b≠I->s.heap.get? b=aA o->F.get? b=aA o)->F.get? L=aA {cls:= .type "list",dict:=aC,data:= .seq a q,slots:= #[]}->Ry P a n->R (.ok (.ret i)) {s with heap:=F,toks:=y}):
  aL (Md w) A.in1 (do
   let r ←rI [.ref I] (aSN<|.ref S)
   if r||(["set","frozenset","dict","dict_keys","dict_values","dict_items"]:List String).any (LM "set"== .type ·)then yU "list.extend.makes-room";aXC (.ref L)
   tM (.builtin "list.extend.loop" ⟨[.ref L,.ref I,i],[]⟩))
   (λH k=>match H with| .done f=>R (.ok f) k| .again q=>q.quiet=aB/\lI (Md w) A q R k) (λe k=>R (.error e) k) s:=by
 have t:∀(h:dW) (g y:Nat),J 0 h->(∀b o,b≠L->s.heap.get? b=aA o->h.get? b=aA o)->
   h.get? L=aA {cls:= .type "list",data:= .seq #[] g}->lI (Md w) A (.builtin "list.extend.loop" ⟨[.ref L,.ref I,i],[]⟩) R {s with heap:=h,toks:=y}:=by
  intro h g y B T p;refine codeAny_extend_loopS W.toS Q L x i n 0 _ #[] g rfl (eO _) B p (ItemsOf.nil _) λk a q M D v=> ?_;refine aE (Moved.eq_with M) ?_;refine X k.heap k.toks a q (λb o l C e=>M.heap b o (λc=> ?_)<|T b o l e) D v;rcases dA.mp c with Y|c
  ·exact l Y
  ·exact C<|dU.mp c
 refine aK (fV<|aD6 U ?_);refine xE (λz=> ?_)<|λz=>bA ⟨Dx aWC _,t _ j _ K (λb o z e=>e) E⟩;refine aK<|BN ?_;refine aK ?_;show aL _ _ (updateSeq L (·.push .none)>>=λz=>updateSeq L (·.pop)) _ _ _;refine aK<|aQI E rfl ?_;have d:=wX (yZ (·.push AF)) E rfl;refine aQI (hz:=by seq_fits) d rfl ?_
 have m:=wX (yZ (·.pop)) d rfl;refine bA ⟨Dx aWC _,t _ _ _ ?_ (λb o l e=> ?_) m⟩
 ·refine W.frame 0 _ _ K λb l o e=> ?_;have u:b≠L:=λh=>x<|h▸l;exact(Dt _ _<|tQ u).trans<|(Dt _ _<|tQ u).trans e
 ·exact(Dt _ _<|tQ l).trans<|(Dt _ _<|tQ l).trans e
theorem uy{b:Type}(l:List b):((eW l.length).filterMap λk=>l[k]?)=l:=by
 induction l with
 |nil=>rfl
 |cons a l c=>rw[AC,aPW,LC];show a::(dj EI<|eW l.length).filterMap _=_;rw[Lg];exact aN _ c
theorem aFC{b:Type}(a:Array b):((eW a.size).filterMap λk=>a[k]?)=a.toList:=
 (NP λk c=>mZ.symm).trans (uy a.toList)
theorem WE{P:Nat->aD->Prop}{acc:Array aD}{n:Nat}{l:List aD}(h:Ry P acc n)(c:l.length=n)(d:∀i v,P i v->l[i]? =aA v):acc.toList=l:=by refine aVN λi=> ?_;by_cases a:i<n;have b:=uX a h.1.symm;have e:=getElem?_pos acc i b;exact(mZ.trans e).trans (d _ _<|h.2 i acc[i] e).symm;exact(uW<|aR (bW<|pL.trans h.1)<|eI.mp a).trans (uW<|aR (bW c)<|eI.mp a).symm
theorem YO{a b c:Nat}(e:a≠b)(d:a≠c):a∉[b,c]:=λh=>(dA.mp h).elim e λh=>d<|dU.mp h
theorem aFF(hh:A.handled=aC){S:aM}{o:dE}{n:Array (Int×aD)}{M:Nat}{t:iV}(ho:s.heap.get? S=aA o)(F:o.ExactSet)(hd:o.data= .set n M t)(hf:t.fits n.size=aB)(hz:n.size<=rD)
  (hr:lG t.place) (hsz:t.place.size=n.size) (hled:t.led=aB\/w.params.followText "set-order"=aB) {R:List aD->aF->Prop}
  (q:∀(K:aF) (ws:List aD),aU s K->ws.Perm (n.toList.map (·.2))->R ws K):aL (Md w) A (Fc<|.ref S) R E s:=by
 have N:S<s.heap.objs.size:=iF ho;unfold Fc;refine aK<|gq<|zJ aSF ?_;rw[Dw aVW _];show aL _ A.in1 (QJ []>>=λl=>tM<|.builtin "list.__iadd__" ⟨[l,.ref S],[]⟩) _ _ s;refine aK<|yY<|bA ⟨Dx Rz _,zJ aSG ?_⟩;rw[Dw Rz _];have hL:(s.heap.push {cls:= .type "list",data:= .seq ([]:List aD).toArray}).get? s.heap.objs.size=aA {cls:= .type "list",data:= .seq #[]}:=kZ _ rfl;show aL _ A.in1 (EL (.ref s.heap.objs.size) (.ref S)<|.ref s.heap.objs.size) _ _ _;have ho1:=fC {cls:= .type "list",data:= .seq ([]:List aD).toArray} ho;generalize D:({s with heap:=s.heap.push {cls:= .type "list",data:= .seq ([]:List aD).toArray}}:aF)=c
 have g1:aU s c:=by rw[←D];exact aU.u4 s _ s.toks
 have j:c.heap.get? S=aA o:=by refine eJ D ?_;exact ho1
 have Z:c.heap.get? s.heap.objs.size=aA {cls:= .type "list",data:= .seq #[]}:=by refine eJ D ?_;exact hL
 have z:c.heap.objs.size=s.heap.objs.size+1:=by rw[←D];exact lH ..
 clear D hL ho1;generalize B:s.heap.objs.size=L at*;have U:S≠L:=lU N;have key:aL (Md w) A.in1 (EL (.ref L) (.ref S)<|.ref L) (λC r=>match C with| .done f=>(λ(p:pJ) (r:aF)=>∃(a:Array aD) (u:Nat),p= .ok (.ret (.ref L))/\aU s r/\r.heap.get? L=aA {cls:= .type "list",dict:=aC,data:= .seq a u,slots:= #[]}/\a.toList.Perm (n.toList.map (·.2))) (.ok f) r| .again u=>u.quiet=aB/\lI (Md w) A u (λ(p:pJ) (r:aF)=>∃(a:Array aD) (u:Nat),p= .ok (.ret (.ref L))/\aU s r/\r.heap.get? L=aA {cls:= .type "list",dict:=aC,data:= .seq a u,slots:= #[]}/\a.toList.Perm (n.toList.map (·.2))) r) (λe r=>(λ(p:pJ) (r:aF)=>∃(a:Array aD) (u:Nat),p= .ok (.ret (.ref L))/\aU s r/\r.heap.get? L=aA {cls:= .type "list",dict:=aC,data:= .seq a u,slots:= #[]}/\a.toList.Perm (n.toList.map (·.2))) (.error e) r) c:=by
  generalize hR:(λ(p:pJ) (r:aF)=>∃(a:Array aD) (u:Nat),p= .ok (.ret (.ref L))/\aU s r/\r.heap.get? L=aA {cls:= .type "list",dict:=aC,data:= .seq a u,slots:= #[]}/\a.toList.Perm (n.toList.map (·.2)))=RR;unfold EL;refine aK<|AD (T:= "set") ⟨o,j,F.1⟩ ?_;have h1:aXD (.ref L) (.ref S)=aI:=beq_false_of_ne<|tQ U;have n1:(LM "set"==LM "list")=aI:=by decide
  have n2:(LM "set"==LM "tuple")=aI:=by decide
  simp only[h1,n1,n2,aVA,Hv,if_false];refine aK<|xw j F hd hf hz (λhc=> ?_) λys d hy=> ?_;have hI:=kZ c.heap (o:=oW (.int 0 0) 0 (.ref S) n.size M) rfl;have J:c.heap.objs.size≠S:=by rw[z];exact jQ<|zG N
  have Y:L≠c.heap.objs.size:=by refine aE z ?_;exact lU<|jY _
  have I:=YO Y<|tQ U;have C:∀(l:List aD) (P:Nat->aD->Prop),l.Perm (n.toList.map (·.2))->(∀i v,P i v->l[i]? =aA v)->∀h' tk a u,(∀b o,b≠L->b≠c.heap.objs.size->(c.heap.push<|oW (.int 0 0) 0 (.ref S) n.size M).get? b=aA o->h'.get? b=aA o)->h'.get? L=aA {cls:= .type "list",dict:=aC,data:= .seq a u,slots:= #[]}->Ry P a n.size->RR (.ok (.ret (.ref L))) {c with heap:=h',toks:=tk}:=by
   intro l P pl hP h' tk a u hk H m;refine eJ hR ?_;refine⟨a,u,rfl,⟨λb o Q=> ?_,?_,g1.os,g1.p8⟩,H,?_⟩;exact hk b o (lU<|B▸iF Q) (by refine aE z ?_;exact lU<|zG<|B▸iF Q) (fC _<|g1.i8 _ _ Q)
   show s.heap.objs.size<=h'.objs.size;refine aE B ?_;exact dR<|iF H;refine aE (WE m (pl.length_eq.trans<|(bP _).trans pL) hP) ?_;exact pl
  cases ht:w.params.followText "set-order"with
  |true=>
   refine OA (s:={c with heap:=c.heap.push<|oW (.int 0 0) 0 (.ref S) n.size M}) (vp (A:=A.in1) hh ht J hd hf) hz I ⟨o,fC _ j,F.1⟩ ⟨hI,fC _ j⟩ _ (fC _ Z) (C _ _ ?_ λi v h=>h)
   have:=XW (w.params.setOrder S M) n.size 0 n.toList #[] rfl;exact aWD _ this
  |false=>
   have hl:t.led=aB:=hled.resolve_right (by rw[ht];exact cC)
   have hc':=hc.resolve_left (by refine aE ht ?_;exact cC)
   exact OA (s:={c with heap:=c.heap.push<|oW (.int 0 0) 0 (.ref S) n.size M}) (aJI (A:=A.in1) hh ht J hd hf hl hc' hr hsz) hz I ⟨o,fC _ j,F.1⟩ ⟨⟨0,hI,aF1 hr⟩,fC _ j⟩ _ (fC _ Z) (C _ _ (List.Perm.refl _) λi v h=>h)
  have hT:=kZ c.heap (o:=jR "tuple" (ys.map λ(i:Nat)=>lV i).toArray 0) rfl;generalize hh2:c.heap.push (jR "tuple" (ys.map λ(i:Nat)=>lV i).toArray 0)=h2 at hT⊢;have hz2:h2.objs.size=c.heap.objs.size+1:=by refine eJ hh2 ?_;exact lH ..
  have k2:∀b o,c.heap.get? b=aA o->h2.get? b=aA o:=by intro b o h;refine eJ hh2 ?_;exact fC _ h
  have hI:=kZ h2 (o:=oW (.ref c.heap.objs.size) 0 (.ref S) n.size M) rfl;replace hI:=hz2▸hI;have J:c.heap.objs.size+1≠S:=by refine aE z ?_;exact jQ<|zG<|zG N
  have hIT:c.heap.objs.size+1≠c.heap.objs.size:=aQM _;have Y:L≠c.heap.objs.size+1:=by refine aE z ?_;exact lU<|zG<|jY _
  have I:L∉[c.heap.objs.size+1,c.heap.objs.size,S]:=λh=>(dA.mp h).elim Y<|YO (z▸lU (jY _))<|tQ U;have pl:((ys.filterMap λk=>n[k]?).map (·.2)).Perm (n.toList.map (·.2)):=by refine aWD _ ((hy.filterMap _).trans ?_);rw[aFC]
  refine OA (s:={c with heap:=h2.push<|oW (.ref c.heap.objs.size) 0 (.ref S) n.size M,drawn:=d}) (aFK (A:=A.in1) (T:=c.heap.objs.size) hh J hIT hd hf hy) hz I ⟨o,fC _<|k2 _ _ j,F.1⟩ ⟨hI,fC _ hT,fC _<|k2 _ _ j⟩ _ (fC _<|k2 _ _ Z) ?_
  intro h' tk a u hk H m;refine eJ hR ?_;refine⟨a,u,rfl,⟨λb o Q=> ?_,?_,g1.os,g1.p8⟩,H,?_⟩;exact hk b o (lU<|B▸iF Q) (by refine aE z ?_;exact lU<|zG<|zG<|B▸iF Q) (fC _<|k2 _ _<|g1.i8 _ _ Q)
  show s.heap.objs.size<=h'.objs.size;refine aE B ?_;exact dR<|iF H;rw[WE m (pl.length_eq.trans<|(bP _).trans pL) λi v h=>h];exact pl
 refine dP key (λC r x=> ?_) λe r x=> ?_
 ·cases C with
  |done f=>
   obtain⟨a,u,e,g,X,m⟩:=x
   (injection e with q_;subst q_)
   show aL _ A (load L>>=_) _ _ _;exact aK<|Lq X<|bA<|q _ _ g m
  |again c₁=>refine⟨x.1,RA x.2 λp s₂ y=> ?_⟩;obtain⟨a,u,rfl,g,X,m⟩:=y;show aL _ A (load L>>=_) _ _ _;exact aK<|Lq X<|bA<|q _ _ g m
 ·obtain⟨_,_,e',_⟩:=x;injection e'
end
end
section
variable{w:aW}{d:Th}{A:bN}{i:aH}{E j:aD->aF->Prop}{s f:aF}{a v:V}{l:List V}{x:aD}{R:V->aH->Prop}
theorem wk:∀{l acc:List V},(mV acc l).length<=acc.length+l.length:=by
 intro l;induction l with
 |nil=>exactλ{acc}=>bT acc.length
 |cons x l a=>intro acc;show(if acc.any (λy=>cN y x)then mV acc l else mV (acc++[x]) l).length<=acc.length+(l.length+1);by_cases c:acc.any (λy=>cN y x)=aB;refine aE (bO c) ?_;exact uS a;rw[bH c];exact aR a (by rw[cM,BY];exact bT _)
theorem aOF{p:V->Bool}(c:p=Internal.Eb\/p=Internal.CB)(h:l.all (xF p)=aB):l.all gP=aB:=cX.mpr λv b=>by obtain⟨m,rfl,_,e⟩:=Fv<|cX.mp h v b;refine cX.mpr λa g=> ?_;have q:=cX.mp e a g;rcases c with rfl|rfl<;>cases a<;>first|rfl|exact iE q
theorem ww(C:A.handled=aC){S:aM}(X:Sl w d s S (Gl w) l f)(r:l.length<=300){Q:List aD->aF->Prop}(q:MD w d f l Q):aL (Md w) A (Fc<|.ref S) Q E f:=by
 obtain⟨K,y,F⟩:=X.ts;induction y with| @mk o u M t B e H T J D b L n=>
 have z:u.size=l.length:=((bP _).symm.trans n.length_eq).trans F.f7;have c:t.fits u.size=aB:=sK.mpr ⟨beq_iff_eq.mpr T.i9,cU (by
  show t.place.size+t.dummies.size<=t.mask
  (refine aE J ?_;refine aE T.i9 ?_);exact dR<|Jw D)⟩
 refine aFF C B e H c (z▸HV (aR r (by decide))) T.A6 T.i9 ?_ λa x g p=> ?_
 refine aE b ?_;exact(Bool.eq_false_or_eq_true<|w.params.followText "set-order").elim .inr λh=> .inl (aN (!·) h);have I:=X.g.j3 g;obtain⟨m,k,v⟩:=F2.l7 (p.trans n).symm F;refine q x a m g k (I.kp.rl v) ?_
 (refine aE v.f7 ?_;refine eJ k.length_eq ?_)
 exact aR r (by decide)
theorem aIG(B:A.handled=aC)(t:A.units+300<dO)(I:aJ w i d s)(C:Rv w d s a x)(h:iX 2 a i=aA v)(q:R v i):
  aL (Md w) A (fK (.type "set") [x]) (λy k=>aL (Md w) A (fK (.builtin "sorted") [y]) (Nx w d s R) E k) j s:=by
 obtain⟨u,N,M⟩:=ob h;obtain⟨l,L,g⟩:=ob M;change(match jL l&&aQ (l.length<=300)with|true=>rY (mV [] l)|false=>aC)=aA v at g
 cases m:jL l&&aQ (l.length<=300)with
 |false=>replace g:=m▸g;exact nn g
 |true=>
  replace g:=m▸g;obtain⟨S,Q⟩:=sK.mp m;have z:=bQ Q;obtain⟨D,e⟩:=NW g;obtain⟨p,H,K⟩:=Yp S;cases Iz (lE I C N) L with| @mk c T r J F=>
  obtain⟨b,m⟩:=aNI r;refine aPH I.o0 B (um t) m F (aOF H K) z λf X=> ?_;have P:(mV [] l).length<=300:=aR wk<|(jH _).symm▸z;exact dP (Oz (um t) (I.l8 X.g) D (ww (A:=A.in1) B X P)<|e▸q) (λo o n=>n.tr<|X.g.gd _ _) λo o e=>e
theorem vw(w:aW):oT w:=⟨λc b e I a h q=>aM8 c b I a h q,λc b e I a h q=>aIG c b I a h q⟩
end
set_option backward.match.sparseCases false
set_option maxHeartbeats 0
theorem uo:HF.row.wellSaid=aB:=by
 delta OpenRow.wellSaid OpenRow.partSaid looksOpen;repeat' (with_reducible refine look_both ?_ ?_)
 all_goals decide+kernel
theorem aDT:HF.wellSaid=aB:=by
 delta OpenLaw.wellSaid;repeat' (with_reducible refine look_both ?_ ?_)
 exact uo
 all_goals decide+kernel
section
theorem aBV{w:aW}{e:Th}{s:aF}{h:dW}{P:Params}{c:List Int}{d:List aD}(x:WellAll P h d ((c.map RG).map ofPy)):Rl w e s (c.map .a5) d:=by
 induction c generalizing d with
 |nil=>cases x;rfl
 |cons i c f=>cases x with|cons a b=>cases a;exact .mk (RI.mk _) (f b)
theorem rt{w:aW}(S:oT w){c:aF}(s:(KK w).In c.heap)(t:c.heap.NoLimit){D u:aX->Option aD}(Tg:c.heap.Ns qY D)(Tb:c.heap.Ns Df u)(A:∀x:aX,x≠"__name__"->u x=aPR x)(Y:c.gens= #[])
  {E:aM} (U:D (cD "law")=aA (.ref E)) {a:aM} {e:List Int} (k:Well w.params c.heap (.ref a) (ofPy<|aWE<|e.map RG)) (d:e.length<=63) {cl:aX->Option aM} {f:ExcName->Option aD}:
  lI (Md w) callerA (Code.call (.ref E) ⟨[.ref a],[]⟩) (GoodW HF.row.claim cl f [ofPy (aWE<|e.map RG)] c) c:=by
 have H:=mg_of s Tg (xT w).R9;rw[U]at H;cases H;have N:Mv w:=λh X=>by obtain⟨oc,i⟩:=(xT w).Q5;obtain⟨R,⟨o,es,ep,j,y⟩,h3⟩:=t;cases(s _ _ i).symm.trans j;exact⟨R,⟨_,es,ep,X _ _ i,y⟩,h3⟩
 have P:∃l:List aD,c.heap.get? a=aA {cls:= .type "list",data:= .seq l.toArray}/\WellAll w.params c.heap l ((e.map RG).map ofPy):=by
  have k:Well w.params c.heap (.ref a) (.list (ofPys<|e.map RG)):=k;rw[ofPys_eq]at k;cases k with
  |list j y=>exact⟨_,j,y⟩
 obtain⟨l,ha,Q⟩:=P;have m:∀b,¬Th.N ⟨[],[]⟩ b:=λb h=>h.elim (λ⟨_,T,_⟩=>nomatch T) λh=>nomatch h;have B:Rl w ⟨[],[]⟩ c (e.map .a5) l:=aBV Q;have z:3<c.heap.objs.size:=by obtain⟨fn,fd,_,F⟩:=So (w:=w) (g:=5099) rfl;obtain⟨o,j,_⟩:=F.J5;exact Hy (show 3<fA 5099 by decide+kernel) (iF<|s _ _ j)
 have I:aJ w [] ⟨[],[]⟩ c:=⟨s,⟨u,Tb,A⟩,Y,rfl,(λp o q h=>(nomatch h)),aXE,λa h=>(m a h).elim,z,λa h=>(m a<|.inl h).elim,λa h=>nomatch h⟩;have L:=aAJ e d;rw[UE]at L;refine aI4 S N 60 L rfl ⟨rfl,by decide+kernel,by decide+kernel⟩ I (xs:=[.ref a]) (F2.p9 (show Rv w _ _ (.a7 _) _ from vZ▸RL.mk (.mk ha rfl rfl rfl) (m a) (by rw[B.f7,bP];exact aR d (by decide)) B)) λx s' n=> ?_
 induction n with| @mk v K M I' J r q=>
 rw[q]at r;rw[show x= .bool aB from r];refine⟨.inl ⟨.bool aB,.bool aB,[],rfl,λC=>rfl,.bool aB,?_,λC=>⟨.nil,λC h=>nomatch h⟩⟩,(λb o Z=>J.i8 b o Z (λh=>nomatch h) λh=>m b<|.inl h),J.os,I'.p8⟩;first|wrow_post|rfl'
theorem Yk:(defOf qq HF.row.name).isSome=aB:=by rfl'
noncomputable def dk:=(defOf qq HF.row.name).get Yk
set_option maxHeartbeats 2000000 in
theorem XX(S:∀w,oT w):HF.Holds:=by
 refine holds_law aDT λsaid=> ?_;refine holds_open (q:=qq) (loose:=loose) (Xt:=Xt) (XP:=λz z=>True) (Yf:=λs=>s.heap) (Ya:=λw=>(s3 (o1 w) w).abs.heap) (YP:=λw h=>(KK w).In h) (N:=20000) (d:=dk.1) (kwd:=dk.2) aLI (λw s e=>e▸pf w) (λw h E k e=>λa o q=>e a o<|k a o q) (λz z=>trivial) (λz z z z z=>trivial) (Option.some_get Yk).symm (by rfl') (by rfl') (λs z=>recFacts_nil rfl) (by rfl) (by first|assumption|decide+kernel) (by decide+kernel) ⟨rfl,rfl,rfl,rfl,rfl,by decide+kernel⟩ ?hw ?hc
 case hw=>w_witness2
 case hc=>
  intro w a b c d G Y F o C H e f g i j k l m n p q r t u v x y;have A:(KK w).In b.heap:=Y;refine Ground.open G ?_;intro T B D _ _;wrow_args t u v x y;refine enter_call ?_;refine RA ?_<|λz z g=>GoodW.toG g;exact rt (S w) A (Top.nolimit T) (Top.g T) (Top.b T) (Top.builtins T) n m (by assumption) (by omega)
end
theorem Fin_holds:HF.Holds:=XX vw
end
end Internal.S
theorem PySem.Challenge.cw_nz0400_01_holds : PySem.Challenge.rw_nz0400_01.Holds :=
  Internal.S.Fin_holds
